/- General words for all walks of this seat: what a call returns while everything that lay there before is unchanged ('Ret'), slices as lists ('Sl', 'Ints'), and one rule for a region that draws its order while its operations read, or call what returns one value ('wp_region_ext'). No program is named here. How the arguments of a law read: a slice of ints as a list, a struct of two ints as two ints. No program is named here. General words for functions that range over a function: a block of cells known whole ('Blk'), a caller's contract, and one law for the statement. No program is named here. Errors as the program has them: what errors.As, errors.Is and errors.Unwrap of Go's library return at a chain of Faults over an Errno, at a nil error, and where one of another kind stands between. errors.Unwrap, errors.As at an Errno, and errors.Is at an Errno, as contracts. errors.As at an Errno, fault.Code, fault.At and fault.First, as contracts. What the row's condition on errors.errorType gives a walk, and a world that meets it. What package span computes: All, Has, Right and Fits return the plain functions below, for any span and any slice of keys, and change nothing that lay there. What package span's iterator 'each' hands over: the spans of the children from the last one to the first, for any span and any keys; and that Child and Split return the plain functions below. What the iterator of slices.Backward hands over: the elements of a slice of ints from the last one to the first. 'append' onto a row of the call's own of a slice that came in from elsewhere (nil, empty or not), said by Sl. No program is named here. Rules by which a walk that is printed by a program (wip/tools/gw.py) steps through code, operation by operation: pure operations in one go by the kernel, memory and calls one by one; in a region that draws its order, those that only compute are taken first. No program is named here. -/
import Derived.WalkKit
import Derived.WalkSpells
import Derived.WalkLawsBesides
import Derived.Deep.QuietTactic
import Derived.BigQuiet
import Derived.Lib.Hide
import Derived.ProofKit
import Derived.OpenShut
import Derived.ShutString
import Derived.ChangeOld
import Derived.Below
import Derived.Lib.SmallJoins
import Derived.RangeFuncNested
import Derived.RangeFuncBound
import Derived.RangeFuncCalls
import Derived.RangeFuncLeaves
import Derived.Shelf.Abstract
import Derived.Shelf.RegionOpen
import Derived.OwnWalkIn
import Derived.TacticsInMore
import Derived.LoopNIn
import Derived.LoopIn
import Derived.Test.YtolblnjohaooaaaGreatDoorProg
import Derived.LaidEql
import Derived.Stop.Asserts
import Derived.RowKitTokens
import Derived.Deep.LoopGhost
import Derived.Test.YtolblnjohaooaaaGreatDoorRows
import Derived.ChangeSame
import Derived.ChangeVars
import Derived.JoinedOf
import Derived.RowKit
import Derived.LaidLaws
import Derived.LaidHandle
import Derived.Stop.Joined
import Derived.SevenTiedAt
import Derived.Maps.AppendAt
import Derived.Deep.AppendLies
import Derived.Deep.RegionHeld3
import Derived.Deep.MidRow
import Derived.Deep.RegionHeld
import Derived.IntWalk
import Derived.LoopN
namespace Go.Proofs.YtolblnjohaooaaaGreatDoor
open Go.RowKit

def Ret (v : Value) (w : World) (e : Ending) (w' : World) : Prop := e = .returned v ∧ Below w.heap.size w w'

theorem getC {W w1 : World} (hb : Below W.heap.size W w1) {p : Addr} {v : Value} (h : W.cell? p = some v) : w1.cell? p = some v :=
  (hb.cell (World.block_lt_of_cell? W p h)).trans h
theorem ltC {w : World} {p : Addr} {v : Value} (h : w.cell? p = some v) : p.block < w.heap.size := World.block_lt_of_cell? w p h
theorem ltB {W w1 : World} (hb : Below W.heap.size W w1) {b : Nat} (h : b < W.heap.size) : b < w1.heap.size := Nat.lt_of_lt_of_le h hb.size
theorem getA {w : World} {p : Addr} {v : Value} (o : Obj) (h : w.cell? p = some v) : (w.alloc o).cell? p = some v := by
  rw [World.cell?_alloc_lt _ _ _ (ltC h)]; exact h
theorem Bl.drewN {B : Nat} {a w : World} (h : Below B a w) (n : Nat) : Below B a (w.drewN n) := ⟨h.os, h.tape, h.output, h.size, h.block⟩
/-- two steps, each from the heap as it stood -/
theorem Bl.next {a w w' : World} (h : Below a.heap.size a w) (k : Below w.heap.size w w') : Below a.heap.size a w' := h.trans (k.mono h.size)
theorem Bl.box (w : World) (o : Obj) : Below w.heap.size w (w.alloc o) := (Below.refl _ _).alloc (Nat.le_refl _) _

/-- a slice value of n elements, and the cells that it shows -/
def Sl (w : World) (v : Value) (n : Nat) (xs : List Value) : Prop :=
  (∃ a c, v = .slice a 0 c ∧ n = 0 ∧ xs = []) ∨ ∃ b off cap, v = .slice (some ⟨b, off, none⟩) n cap ∧ n ≤ cap ∧ cap ≤ maxLen ∧ ∀ j x, xs[j]? = some x → w.cell? ⟨b, off + j, none⟩ = some x
def Ints (w : World) (v : Value) (l : List Int) : Prop := Sl w v l.length (l.map (Value.int .i64))
theorem Sl.below {w w' : World} {v : Value} {n : Nat} {xs : List Value} (h : Sl w v n xs) (hb : Below w.heap.size w w') : Sl w' v n xs := by
  rcases h with h | ⟨b, off, cap, h1, h2, h3, h4⟩
  · exact .inl h
  · exact .inr ⟨b, off, cap, h1, h2, h3, fun j x hj => getC hb (h4 j x hj)⟩
theorem Ints.below {w w' : World} {v : Value} {l : List Int} (h : Ints w v l) (hb : Below w.heap.size w w') : Ints w' v l := Sl.below h hb

theorem Ints.blk {w : World} {v : Value} {l : List Int} (h : Ints w v l) (hl : l.length ≠ 0) {b off n cap : Nat} (hv : v = .slice (some ⟨b, off, none⟩) n cap) : b < w.heap.size := by
  rcases h with ⟨_, _, h1, h2, h3⟩ | ⟨b', off', cap', h1, h2, h3, h4⟩
  · exact absurd h2 hl
  · rw [hv] at h1
    simp only [Value.slice.injEq, Option.some.injEq, Addr.mk.injEq] at h1
    obtain ⟨⟨rfl, rfl, _⟩, _, _⟩ := h1
    exact ltC (h4 0 (.int .i64 l[0]) (by simp))
theorem Ints.slice {w : World} {v : Value} {l : List Int} (h : Ints w v l) : ∃ a c, v = .slice a l.length c := by
  rcases h with ⟨_, _, rfl, h, _⟩ | ⟨b, off, cap, rfl, _⟩
  · rw [h]; exact ⟨_, _, rfl⟩
  · exact ⟨_, _, rfl⟩

def RetS (R : World → Value → Prop) (w : World) (e : Ending) (w' : World) : Prop := ∃ r, e = .returned r ∧ Below w.heap.size w w' ∧ R w' r
def flat2 (l : List (Int × Int)) : List Value := l.flatMap fun p => [.int .i64 p.1, .int .i64 p.2]
def Pairs (w : World) (v : Value) (l : List (Int × Int)) : Prop := Sl w v l.length (flat2 l)

theorem flat2_length (l : List (Int × Int)) : (flat2 l).length = l.length * 2 := by
  induction l with
  | nil => rfl
  | cons x l ih => simp only [flat2, List.flatMap_cons, List.length_append] at ih ⊢; rw [ih]; simp; omega
theorem flat2_even (l : List (Int × Int)) : ∀ i : Nat, (flat2 l)[i * 2]? = l[i]?.map fun p => .int .i64 p.1 := by
  induction l with
  | nil => intro i; simp [flat2]
  | cons x l ih =>
    intro i
    cases i with
    | zero => simp [flat2]
    | succ i => have := ih i; simp only [flat2, List.flatMap_cons] at this ⊢; rw [Nat.succ_mul]; simpa using this
theorem flat2_odd (l : List (Int × Int)) : ∀ i : Nat, (flat2 l)[i * 2 + 1]? = l[i]?.map fun p => .int .i64 p.2 := by
  induction l with
  | nil => intro i; simp [flat2]
  | cons x l ih =>
    intro i
    cases i with
    | zero => simp [flat2]
    | succ i =>
      have := ih i
      simp only [flat2, List.flatMap_cons] at this ⊢
      rw [Nat.succ_mul, show i * 2 + 2 + 1 = i * 2 + 1 + 2 from by omega]
      simpa using this

theorem Sl.slice {w : World} {v : Value} {n : Nat} {xs : List Value} (h : Sl w v n xs) : ∃ a c, v = .slice a n c := by
  rcases h with ⟨_, _, rfl, h, _⟩ | ⟨b, off, cap, rfl, _⟩
  · rw [h]; exact ⟨_, _, rfl⟩
  · exact ⟨_, _, rfl⟩
theorem Sl.at {w : World} {a : Option Addr} {n c : Nat} {xs : List Value} (h : Sl w (.slice a n c) n xs) : xs = [] ∨ ∃ b off, a = some ⟨b, off, none⟩ ∧ ∀ j x, xs[j]? = some x → w.cell? ⟨b, off + j, none⟩ = some x := by
  rcases h with ⟨_, _, _, _, h2⟩ | ⟨b, off, cap, h1, _, _, h4⟩
  · exact .inl h2
  · simp only [Value.slice.injEq] at h1; exact .inr ⟨b, off, h1.1, h4⟩
theorem Sl.len {w : World} {v : Value} {n : Nat} {xs : List Value} (h : Sl w v n xs) : n ≤ 9223372036854775807 := by
  rcases h with ⟨_, _, _, h, _⟩ | ⟨b, off, cap, _, h1, h2, _⟩
  · omega
  · unfold maxLen at h2; omega
theorem Pairs.at {w : World} {a : Option Addr} {c : Nat} {l : List (Int × Int)} (h : Pairs w (.slice a l.length c) l) (k : Nat) (p : Int × Int) (hk : l[k]? = some p) :
    ∃ b off, a = some ⟨b, off, none⟩ ∧ w.cell? ⟨b, off + k * 2, none⟩ = some (.int .i64 p.1) ∧ w.cell? ⟨b, off + k * 2 + 1, none⟩ = some (.int .i64 p.2) := by
  rcases Sl.at h with h2 | ⟨b, off, h1, h2⟩
  · have := flat2_even l k; rw [h2, hk] at this; simp at this
  · exact ⟨b, off, h1, h2 _ _ (by rw [flat2_even, hk]; rfl), by rw [Nat.add_assoc]; exact h2 _ _ (by rw [flat2_odd, hk]; rfl)⟩

/-! ### the walk halts here: 'go_wp2_with (at_builtin; refine Stop.go ?_)', then 'unfold Stop' -/
def Stop (p : Prop) : Prop := p
theorem Stop.go {p : Prop} (h : Stop p) : p := h

/-! ### a row that the call owns -/
theorem own_below {w w' : World} {base : Nat} {e : TypeId} {size : Nat} {v : Value} {n : Nat} {xs : List Value} (h : w.ownsRow base e size v n xs) (hb : Below w.heap.size w w') : w'.ownsRow base e size v n xs :=
  h.kept (row := none) ⟨hb.os, hb.tape, hb.output, hb.size, fun k hk _ => hb.block k hk⟩ (by cases v.ownBlock <;> simp)
theorem own_sl {w : World} {base : Nat} {e : TypeId} {size : Nat} {v : Value} {n : Nat} {xs : List Value} (h : w.ownsRow base e size v n xs) : Sl w v n xs := by
  have hx := h.1
  rcases h.2 with ⟨rfl, rfl⟩ | ⟨g, cap, cur, rfl, _, hg, h2, h3, _, h5⟩
  · exact .inl ⟨_, _, rfl, rfl, List.eq_nil_of_length_eq_zero (by simpa using hx)⟩
  · refine .inr ⟨g, 0, cap, rfl, h2, h3, fun j x hj => ?_⟩
    have hc := h.cells (g := g) rfl j x hj
    rw [Nat.zero_add]
    by_cases h0 : j = 0
    · subst h0; simpa [Addr.add] using hc
    · simpa [Addr.add, h0] using hc
theorem grown_below {B : Nat} {w w' : World} {v : Value} {base : Nat} {e : TypeId} {size n : Nat} {xs : List Value} (hg : w.grownBy w' v.ownBlock) (h : w.ownsRow base e size v n xs) (hB : B ≤ base) (hw : B ≤ w.heap.size) : Below B w w' :=
  (Below.refl B w).grown hg hw (fun k e => Nat.le_trans hB (h.lt k e).1)

/-! ### make: n elements of zeros -/
def zeros (cs : List Value) (n : Nat) : List Value := (List.replicate n cs).flatten
theorem zeros_succ (cs : List Value) (n : Nat) : zeros cs (n + 1) = zeros cs n ++ cs := by simp [zeros, List.replicate_succ']
theorem zeros_length (cs : List Value) (n : Nat) : (zeros cs n).length = n * cs.length := by simp [zeros]
theorem made_zeros (cs : List Value) (n : Nat) : madeCells cs.toArray (n * cs.length) = (zeros cs n).toArray := by
  have h : ((List.range (n * cs.length)).map fun j => cs.toArray[j % cs.toArray.size]!) = zeros cs n := by
    induction n with
    | zero => simp [zeros]
    | succ n ih =>
      rw [Nat.succ_mul, List.range_add, List.map_append, ih, zeros_succ, List.map_map]
      congr 1
      apply List.ext_getElem
      · simp
      · intro i h1 h2
        simp [Nat.mod_eq_of_lt h2, h2]
  rw [← h]; apply Array.ext
  · simp [madeCells]
  · intro i h1 h2; simp [madeCells]
theorem make_zeros {P : Program} {t e : TypeId} {i : TypeInfo} {z : Value} (cs : List Value) (ht : P.underlying t = some (.slice e)) (hi : P.info? e = some i) (hz : i.zero = some z) (hc : z.cells = cs.toArray) (hs : i.size = cs.length) {k : Nat} (hk : i.bytes = k)
    (n : Nat) (hb : k * n ≤ 281474976710656) (hn : n ≤ 9223372036854775807) (w : World) :
    (Instr.makeSlice t (.int .i64 (n : Int)) (.int .i64 (n : Int))).run P w = .ok (.slice (some ⟨w.heap.size, 0, none⟩) n n) (w.alloc (.cells (zeros cs n).toArray e)) := by
  have hb' : (i.bytes : Int) * (n : Int) ≤ 281474976710656 := by
    have h : ((i.bytes * n : Nat) : Int) ≤ 281474976710656 := by rw [hk]; omega
    rwa [Int.natCast_mul] at h
  have hr := run_make (P := P) w t e i z ht hi hz .i64 .i64 n n (by omega) (by omega) hb' (by omega)
  simp only [Int.toNat_natCast] at hr
  rw [hr, hc, hs, made_zeros]

/-! ### A region that draws its order: in every later world -/
structure Ext (W : World) where
  val : World
  below : Below W.heap.size W val
instance (W : World) : Nonempty (Ext W) := ⟨⟨W, Below.refl _ _⟩⟩
theorem Ext.get {W : World} (z : Ext W) {p : Addr} {v : Value} (h : W.cell? p = some v) : z.val.cell? p = some v := getC z.below h
theorem Ext.lt {W : World} (z : Ext W) {b : Nat} (h : b < W.heap.size) : b < z.val.heap.size := ltB z.below h
theorem wp_region_ext {P : Program} {id : Nat} {Q : Exit → Act → World → Prop} {a : Act} {w : World} {l : List Oper} (hm : P.follows .mixedOrders = true) (hB : Region.lexB .any l.toArray = true)
    (h : wpQuiet P l.toArray (fun w' => ∃ x : Ext w, w' = x.val) (fun a' => ∀ x : Ext w, Q .normal a' x.val) l a) : (Code.region id l.toArray true).wp P Q a w :=
  wp_region_quiet (C := fun w' => ∃ x : Ext w, w' = x.val) hm hB ⟨⟨_, (Below.refl _ w).drew⟩, rfl⟩ (by
    have e : (fun a' => ∀ x : Ext w, Q .normal a' x.val) = (fun a' => ∀ w', (∃ x : Ext w, w' = x.val) → Q .normal a' w') := by
      funext a'; apply propext; exact ⟨fun h w' ⟨x, hx⟩ => hx ▸ h x, fun h x => h _ ⟨x, rfl⟩⟩
    rw [e] at h; simpa using h)
theorem Ret.ext {P : Program} {f : FuncId} {args : Array Value} {w : World} {v : Value} {x : Ext w} (h : Calls P f args x.val (Ret v x.val)) :
    Calls P f args x.val fun e w'' => e = .returned v ∧ ∃ y : Ext w, w'' = y.val :=
  h.mono fun _ w'' ⟨he, hb⟩ => ⟨he, ⟨w'', x.below.trans (hb.mono x.below.size)⟩, rfl⟩
end Go.Proofs.YtolblnjohaooaaaGreatDoor
namespace Go.Proofs.YtolblnjohaooaaaGreatDoor
open Go.ChangeShapes Go.WideShapes Go.ChangeAt Go.RowKit Go.Joins
set_option linter.unusedVariables false

theorem ints_trod {H : Type} {enc : TypeId × Value → H} {P : Program} {W : World} {t e : TypeId} {v : Value} {y : DataW H × List MemPlace} {fuel : Nat} (ht : P.underlying t = some (.slice e)) (he : P.underlying e = some (.int .i64)) (hC : P.cellsOf e = 1)
    (hf : DataW.trod enc P W 0 (fun _ => true) true fuel t [v] = some y) : ∃ l, Ints W v l ∧ ∀ n ∈ l, (Lit.int .i64 n).wf = true := by
  rcases open_ints ht he hC hf with ⟨hcs, _⟩ | ⟨x, l, c, zs, hcs, _, hl, hm, hz, _, hcell, hwz⟩
  · simp at hcs
    subst hcs
    exact ⟨[], .inl ⟨_, _, rfl, rfl, rfl⟩, by simp⟩
  · simp at hcs
    subst hcs
    have hz' : zs.length = c := by simpa using hz
    by_cases h0 : l = 0
    · subst h0
      exact ⟨[], .inl ⟨_, _, rfl, rfl, rfl⟩, by simp⟩
    · obtain ⟨b, off, spot⟩ := x
      have hc := hcell 0 (by omega)
      have hspot : spot = none := by simpa [Addr.add] using World.cell?_spot hc
      subst hspot
      have hlen : (zs.take l).length = l := by simp; omega
      refine ⟨zs.take l, .inr ⟨b, off, c, by rw [hlen], by omega, hm, fun j x hj => ?_⟩, fun n hn => hwz n (List.mem_of_mem_take hn)⟩
      rw [List.getElem?_map, List.getElem?_take] at hj
      by_cases hjl : j < l
      · rw [if_pos hjl] at hj
        have hcj := hcell j (by omega)
        have e1 : zs[j]? = some zs[j] := List.getElem?_eq_getElem (by omega)
        rw [e1] at hj
        simp only [Option.map_some, Option.some.injEq] at hj
        subst hj
        have e2 : zs.getD j 0 = zs[j] := by simp [List.getD, e1]
        rw [e2] at hcj
        by_cases hj0 : j = 0
        · subst hj0; simpa [Addr.add] using hcj
        · simpa [Addr.add, hj0] using hcj
      · rw [if_neg hjl] at hj; simp at hj
theorem ints_open {H : Type} {enc : TypeId × Value → H} {P : Program} {W : World} {r : Reach} {b0 : Nat} {t e : TypeId} {v : Value} {d : DataW H} {p : List MemPlace} (ht : P.underlying t = some (.slice e)) (he : P.underlying e = some (.int .i64)) (hC : P.cellsOf e = 1)
    (hv : Value.okWide P W r b0 t v) (h : DataW.Trod enc P W 0 (fun _ => true) true t v d p) : ∃ l, Ints W v l ∧ ∀ n ∈ l, (Lit.int .i64 n).wf = true := by
  obtain ⟨a, len, cap, rfl⟩ := okWide_slice ht hv
  obtain ⟨fuel, hf⟩ := h
  rcases open_ints ht he hC hf with ⟨hcs, _⟩ | ⟨x, l, c, zs, hcs, _, hl, hm, hz, _, hcell, hwz⟩
  · simp [Value.cells] at hcs
    obtain ⟨rfl, rfl, rfl⟩ := hcs
    exact ⟨[], .inl ⟨_, _, rfl, rfl, rfl⟩, by simp⟩
  · simp [Value.cells] at hcs
    obtain ⟨rfl, rfl, rfl⟩ := hcs
    have hz' : zs.length = cap := by simpa using hz
    by_cases h0 : len = 0
    · subst h0
      exact ⟨[], .inl ⟨_, _, rfl, rfl, rfl⟩, by simp⟩
    · obtain ⟨b, off, spot⟩ := x
      have hc := hcell 0 (by omega)
      have hspot : spot = none := by simpa [Addr.add] using World.cell?_spot hc
      subst hspot
      have hlen : (zs.take len).length = len := by simp; omega
      refine ⟨zs.take len, .inr ⟨b, off, cap, by rw [hlen], by omega, hm, fun j x hj => ?_⟩, fun n hn => hwz n (List.mem_of_mem_take hn)⟩
      rw [List.getElem?_map, List.getElem?_take] at hj
      by_cases hjl : j < len
      · rw [if_pos hjl] at hj
        have hcj := hcell j (by omega)
        have e1 : zs[j]? = some zs[j] := List.getElem?_eq_getElem (by omega)
        rw [e1] at hj
        simp only [Option.map_some, Option.some.injEq] at hj
        subst hj
        have e2 : zs.getD j 0 = zs[j] := by simp [List.getD, e1]
        rw [e2] at hcj
        by_cases hj0 : j = 0
        · subst hj0; simpa [Addr.add] using hcj
        · simpa [Addr.add, hj0] using hcj
      · rw [if_neg hjl] at hj; simp at hj
end Go.Proofs.YtolblnjohaooaaaGreatDoor
namespace Go.Proofs.YtolblnjohaooaaaGreatDoor
open Go.RowKit
set_option linter.unusedVariables false

/-- block b holds just these cells -/
def Blk (W : World) (b : Nat) (cs : List Value) (t : TypeId) : Prop := W.heap[b]? = some (.cells cs.toArray t (0, 0))
theorem Blk.lt {W : World} {b : Nat} {cs : List Value} {t : TypeId} (h : Blk W b cs t) : b < W.heap.size := (Array.getElem?_eq_some_iff.1 h).1
theorem Blk.cell {W : World} {b : Nat} {cs : List Value} {t : TypeId} (h : Blk W b cs t) {i : Nat} {v : Value} (hv : cs[i]? = some v) : W.cell? ⟨b, i, none⟩ = some v := by
  simp [World.cell?, show W.heap[b]? = _ from h, hv]
theorem Blk.frozen {W : World} {b : Nat} {cs : List Value} {t : TypeId} (h : Blk W b cs t) (i : Nat) : W.frozen? ⟨b, i, none⟩ = false := by
  simp [World.frozen?, show W.heap[b]? = _ from h]
theorem Blk.new (W : World) (cs : List Value) (t : TypeId) : Blk (W.alloc (.cells cs.toArray t)) W.heap.size cs t := World.alloc_heap_new W _
theorem Blk.kept {W W' : World} {row : Option Nat} {b : Nat} {cs : List Value} {t : TypeId} (h : Blk W b cs t) (hg : W.grownBy W' row) (hne : some b ≠ row) : Blk W' b cs t := (hg.block b h.lt hne).trans h
theorem Blk.alloc {W : World} {b : Nat} {cs : List Value} {t : TypeId} (h : Blk W b cs t) (o : Obj) : Blk (W.alloc o) b cs t := h.kept (World.grownBy_alloc W o none) (by simp)
theorem Blk.below {W W' : World} {b : Nat} {cs : List Value} {t : TypeId} (h : Blk W b cs t) (hb : Below W.heap.size W W') : Blk W' b cs t := (hb.block b h.lt).trans h
theorem Blk.below' {B : Nat} {W W' : World} {b : Nat} {cs : List Value} {t : TypeId} (h : Blk W b cs t) (hb : Below B W W') (hB : b < B) : Blk W' b cs t := (hb.block b hB).trans h
/-- 'append' onto a row of the call's own, what is appended lying in a block of its own -/
theorem app_own {P : Program} {w : World} {ops : Array Oper} {rest : List Oper} {o : Oper} {a : Act} {Q : Exit → Act → World → Prop} (hgd : o.guard = none) (s x : Operand) (t : TypeId)
    (ho : o.op = .call { callee := .builtin .append, args := #[s, x], argTypes := #[t, t] }) (base : Nat) (e : TypeId) (i : TypeInfo) (z : Value) (size bytes : Nat) (ht : P.underlying t = some (.slice e)) (hi : P.info? e = some i)
    (hz : i.zero = some z) (hsize : i.size = size) (hby : i.bytes = bytes) (hzs : z.cells.size = size) (hsz : 0 < size) (v : Value) (n : Nat) (xs : List Value) (hs : a.eval s = v) (hown : w.ownsRow base e size v n xs)
    (b m c : Nat) (news : List Value) (te : TypeId) (hx : a.eval x = .slice (some ⟨b, 0, none⟩) m c) (hnew : Blk w b news te) (hl : news.length = m * size) (h1 : ∀ u ∈ news, u.oneCell' = true)
    (h63 : n + m ≤ maxLen) (hbytes : (n + m) * bytes ≤ 140737488355328) (hbase : base ≤ w.heap.size)
    (h : ∀ v' w', w'.ownsRow base e size v' (n + m) (xs ++ news) → w.grownBy w' v.ownBlock → Below base w w' → wpList P ops Q rest (a.put o.dst v') w') : wpList P ops Q (o :: rest) a w :=
  wpList_append_own w hgd s x t ho base e i z size bytes ht hi hz hsize hby hzs hsz v n xs hs hown ⟨b, 0, none⟩ m c news hx hl
    (fun j u hj => by
      have hc := hnew.cell hj
      by_cases h0 : j = 0
      · subst h0; simpa [Addr.add] using hc
      · simpa [Addr.add, h0] using hc) h1 h63 hbytes hbase (fun v' w' h2 h3 _ => h v' w' h2 h3 (grown_below h3 hown (Nat.le_refl _) hbase))
theorem Blk.other {W : World} {b : Nat} {cs : List Value} {t : TypeId} (h : Blk W b cs t) {p : Addr} (hp : b ≠ p.block) (u : Value) : Blk (W.setCell p u) b cs t :=
  (Below.heap_setCell W p u b hp).trans h
theorem Blk.set {W : World} {b : Nat} {cs : List Value} {t : TypeId} (h : Blk W b cs t) (i : Nat) (u : Value) : Blk (W.setCell ⟨b, i, none⟩ u) b (cs.set i u) t := by
  obtain ⟨hlt, hk⟩ := Array.getElem?_eq_some_iff.1 h
  show (W.heap.modify b _)[b]? = _
  rw [Array.getElem?_eq_getElem (by rw [Array.size_modify]; exact hlt), Array.getElem_modify_self, hk]
  simp
theorem Blk.own {β : Type} (b : Nat) (t : TypeId) (f : β → List Value) : Own (fun s W => Blk W b (f s) t) := fun s X Y row hs hg hrow =>
  hs.kept hg (fun e' => by obtain ⟨o, ho, hc⟩ := hrow b e'.symm; rw [show X.heap[b]? = _ from hs] at ho; cases ho; cases hc)
theorem Blk.turn {A B : World} {row : Option Nat} {b : Nat} {cs : List Value} {t : TypeId} (h : Blk A b cs t) (hg : A.grownBy B row) (hr : ∀ r, row = some r → ∃ o : Obj, A.heap[r]? = some o ∧ o.isCells = false) : Blk B b cs t :=
  h.kept hg (fun e' => by obtain ⟨o, ho, hc⟩ := hr b e'.symm; rw [show A.heap[b]? = _ from h] at ho; cases ho; cases hc)
theorem Blk.put {W : World} {b l : Nat} {cs : List Value} {t : TypeId} (h : Blk W b cs t) {o : Obj} (hl : W.heap[l]? = some o) (ho : o.isCells = false) (o' : Obj) : Blk (W.putObj l o') b cs t :=
  h.turn (grownBy_putObj' W l o') (fun r e => by cases e; exact ⟨o, hl, ho⟩)
theorem below_put {W0 W : World} (h : Below W0.heap.size W0 W) {l : Nat} (hl : W0.heap.size ≤ l) (hlt : l < W.heap.size) (o' : Obj) : Below W0.heap.size W0 (W.putObj l o') :=
  h.grown (grownBy_putObj' W l o') h.size (fun k e => by cases e; exact hl)
theorem ownFrom_size {β : Type} {B n : Nat} : OwnFrom B (fun (_ : β) W => n ≤ W.heap.size) := fun _ _ _ _ h hg _ => Nat.le_trans h hg.size
theorem ownFrom_const {β : Type} {B : Nat} (p : β → Prop) : OwnFrom B (fun s _ => p s) := fun _ _ _ _ h _ _ => h

/-- the blocks that p names lie as they lay -/
structure Keeps (p : Nat → Prop) (W W' : World) : Prop where
  size : W.heap.size ≤ W'.heap.size
  block : ∀ b, p b → W'.heap[b]? = W.heap[b]?
theorem Keeps.refl (p : Nat → Prop) (W : World) : Keeps p W W := ⟨Nat.le_refl _, fun _ _ => rfl⟩
theorem Keeps.trans {p : Nat → Prop} {A B C : World} (h : Keeps p A B) (k : Keeps p B C) : Keeps p A C := ⟨Nat.le_trans h.size k.size, fun b hb => (k.block b hb).trans (h.block b hb)⟩
theorem Keeps.of_below {p : Nat → Prop} {B : Nat} {W W' : World} (h : Below B W W') (hp : ∀ b, p b → b < B) : Keeps p W W' := ⟨h.size, fun b hb => h.block b (hp b hb)⟩
theorem Keeps.setCell {p : Nat → Prop} {A W : World} (h : Keeps p A W) {a : Addr} (ha : ¬ p a.block) (u : Value) : Keeps p A (W.setCell a u) :=
  h.trans ⟨by simp [World.setCell], fun b hb => Below.heap_setCell W a u b (fun e => ha (e ▸ hb))⟩
theorem Keeps.cell {p : Nat → Prop} {W W' : World} (h : Keeps p W W') {a : Addr} (hb : p a.block) : W'.cell? a = W.cell? a := World.cell?_of_block (h.block a.block hb)
theorem keeps_b {p : Nat → Prop} {B : Nat} (hp : ∀ b, p b → b < B) (W : World) (l : Nat) (o o' : Obj) (hl : B ≤ l) (h : W.heap[l]? = some o) (_ : o.isCells = false) (_ : o.isWalk = false) : Keeps p W (W.putObj l o') :=
  ⟨(grownBy_putObj' W l o').size, fun b hb => World.putObj_heap_other (by have := hp b hb; omega)⟩

theorem calls_of_marks {P : Program} {f : FuncId} {fn : Func} {c : Code} {args : Array Value} {w : World} {R : Ending → World → Prop} (hf : P.funcs[f]? = some fn) (hb : fn.body = some c)
    (h : c.wp P (bodyPostM Fence.wide 4 P fn R) { tmps := args ++ Array.replicate (fn.ntmps - args.size) undef, defers := [] } w) : Calls P f args w R :=
  callsIn_wide.1 (callsIn_of_wp_marks hf hb trivial (wpIn_wide.2 h))

theorem wp_range {α : Type} {P : Program} {g : Operand} {ps : Array Tmp} {assign body : Code} {Q : Exit → Act → World → Prop} {a : Act} {w : World} {gf : Nat} {lb : Array Value}
    (hg : a.eval g = .func (.func gf) #[] lb) (eg : ∀ args w, (callFunc gf args).run P w = .ok (.enter gf args) w) {encs : α → Array Value} {S Sp : List α → Prop} {N : Nat} (p : Nat → Prop) (hp : ∀ b, p b → b < w.heap.size)
    (hseq : SeqStopsK Fence.wide 3 P gf lb encs (Keeps p) S Sp N w) (hps : ∀ x, (encs x).size = ps.size)
    (I : List α → World → Prop) (Ix : Code → List α → World → Prop) (hI : OwnFrom w.heap.size I) (hIx : ∀ c, OwnFrom w.heap.size (Ix c)) (h0 : I [] w) (Ax : α → Act → World → Prop) (hAx : ∀ x a', OwnFrom w.heap.size (fun (_ : Unit) W => Ax x a' W))
    (hassign : ∀ (l : Nat) (pre : List α) (x : α) (W : World) (K : Act → World → Prop), I pre W → (∀ a' W', KeepsFrom w.heap.size W W' → Keeps p W W' → I pre W' → Ax x a' W' → K a' W') →
      assign.wpIn (Fence.wide.inRound l) 2 P (Exit.then K (fun _ _ _ => False)) { tmps := (ps.zip (encs x)).foldl (fun t (p, v) => t.setIfInBounds p v) a.tmps, defers := [] } W)
    (hbody : ∀ (l : Nat) (pre : List α) (x : α) (a' : Act) (W : World), w.heap.size ≤ l → I pre W → Ax x a' W → pre.length < N → body.wpIn (Fence.wide.inRound l) 2 P (ownPostG w.heap.size (Keeps p) I Ix (pre ++ [x]) W) a' W)
    (hdone : ∀ (D : Nat) (xs : List α) (W : World), w.heap.size ≤ D → S xs → I xs W → W.heap[D]? = some (.deferred (some [])) → Q .normal { a with defers := { target := .collected D, args := #[] } :: a.defers } W)
    (hstop : ∀ (D : Nat) (c : Code) (pre : List α) (W : World), w.heap.size ≤ D → Sp pre → Ix c pre W → W.heap[D]? = some (.deferred (some [])) → c.wp P Q { a with defers := { target := .collected D, args := #[] } :: a.defers } W) :
    (Code.rangeFunc g ps assign body).wp P Q a w :=
  (wpIn_wide (n := 4)).1 (wpIn_rangeFunc_ownH (F := Fence.wide) (n := 4) rfl (by omega) hg trivial eg hseq (fun h k => h.trans k) (keeps_b hp) (Below.refl _ _) hps I Ix hI hIx h0 Ax hAx hassign
    (fun l pre x a' W hl _ h1 h2 h3 => hbody l pre x a' W hl h1 h2 h3) hdone (fun D c pre W h1 h2 h3 h4 => wpIn_wide.2 (hstop D c pre W h1 h2 h3 h4)))
end Go.Proofs.YtolblnjohaooaaaGreatDoor
namespace Go.Proofs.YtolblnjohaooaaaGreatDoor
open Go.RowKit Go.Extern.Stop Go.Stop Go.Extern
set_option linter.unusedVariables false

/-- v is an error: Faults at the blocks of the list (no number: an error of another kind that wraps one), an Errno below, or nothing. -/
def ErrV (w : World) : List (Option Int) → Option Int → Value → Prop
  | [], none, v => v = .nilIface
  | [], some c, v => v = .iface 43 (.int .i64 c)
  | some b :: r, t, v => ∃ blk v', v = .iface 96 (.pointer (some ⟨blk, 0, none⟩)) ∧ Blk w blk [.int .i64 b, v'] 99 ∧ ErrV w r t v'
  | none :: r, t, v => False
theorem ErrV.kept {w w' : World} (hb : ∀ blk cs, Blk w blk cs 99 → Blk w' blk cs 99) : ∀ {l : List (Option Int)} {t : Option Int} {v : Value}, ErrV w l t v → ErrV w' l t v
  | [], none, v, h => h
  | [], some c, v, h => h
  | some b :: r, t, v, ⟨blk, v', h1, h2, h4⟩ => ⟨blk, v', h1, hb _ _ h2, ErrV.kept hb h4⟩
  | none :: r, t, v, h => h.elim
theorem ErrV.below {w w' : World} (hb : Below w.heap.size w w') {l : List (Option Int)} {t : Option Int} {v : Value} (h : ErrV w l t v) : ErrV w' l t v := h.kept fun _ _ k => k.below hb
/-- whether there is an error -/
def noErr (l : List (Option Int)) (t : Option Int) : Bool := l.isEmpty && t.isNone
theorem ErrV.nil_or {w : World} {l : List (Option Int)} {t : Option Int} {v : Value} (h : ErrV w l t v) : (noErr l t = true ∧ v = .nilIface) ∨ (noErr l t = false ∧ ∃ ty x, v = .iface ty x) := by
  match l, t, h with
  | [], none, h => exact .inl ⟨rfl, h⟩
  | [], some c, h => exact .inr ⟨rfl, _, _, h⟩
  | some b :: r, t, ⟨_, _, h, _⟩ => exact .inr ⟨rfl, _, _, h⟩
  | none :: r, t, h => exact h.elim
theorem noErr_true {l : List (Option Int)} {t : Option Int} (h : noErr l t = true) : l = [] ∧ t = none := by
  cases l <;> cases t <;> simp_all [noErr]

/-! ### what the model's entries for internal/reflectlite give at these types -/
theorem Tryz.valueOfPN (t : Addr) (w : World) : (ReflectliteValue.unpack (.iface 102 (.pointer (some t)))).run Tryz.prog w
    = .ok (.agg #[.pointer (some ⟨1, 102, none⟩), .pointer (some ⟨w.heap.size, 0, none⟩), .int .u64 150]) (w.alloc (.cells #[.pointer (some t)] 102)) := by kernel_rfl
theorem Tryz.typePN (a : Addr) (w : World) : (ReflectliteValue.methodAny (ReflectliteValue.valueError "reflectlite.Value.Type" 0) (fun t _ _ _ => ReflectliteType.toType t) #[.agg #[.pointer (some ⟨1, 102, none⟩), .pointer (some a), .int .u64 150]]).run Tryz.prog w
    = .ok (.iface 169 (.agg #[.pointer (some ⟨1, 102, none⟩)])) w := by kernel_rfl
theorem Tryz.kindPN (w : World) : ((ReflectliteType.abiMethod fun t => (fun a : Nat => Value.int IntKind.u8 (a : Int)) <$> Rtype.kind t) #[.pointer (some ⟨1, 102, none⟩)]).run Tryz.prog w = .ok (.int .u8 22) w := by kernel_rfl
theorem Tryz.kindN (w : World) : ((ReflectliteType.abiMethod fun t => (fun a : Nat => Value.int IntKind.u8 (a : Int)) <$> Rtype.kind t) #[.pointer (some ⟨1, 43, none⟩)]).run Tryz.prog w = .ok (.int .u8 2) w := by kernel_rfl
theorem as_rlm (z : Sem Value) (f : TypeId → Addr → Nat → Nat → Sem Value) (v : Value) :
    ReflectliteValue.method z f #[v] = (do match ← ReflectliteValue.parts v with | none => z | some (t, a, fl) => f t a fl (fl % 32)) := rfl
theorem Tryz.partsPN (a : Addr) (w : World) : (ReflectliteValue.parts (.agg #[.pointer (some ⟨1, 102, none⟩), .pointer (some a), .int .u64 150])).run Tryz.prog w = .ok (some (102, a, 150)) w := by kernel_rfl
theorem Tryz.isNilPN (a p : Addr) (W : World) (ha : W.cell? a = some (.pointer (some p))) :
    (ReflectliteValue.method (ReflectliteValue.valueError "reflectlite.Value.IsNil" 0) ReflectliteValue.isNil #[.agg #[.pointer (some ⟨1, 102, none⟩), .pointer (some a), .int .u64 150]]).run Tryz.prog W = .ok (.bool false) W := by
  rw [as_rlm]
  simp only [Sem.run_bind, Tryz.partsPN, Result.andThen]
  simp [ReflectliteValue.isNil, loadVar, isAgg, underlying, Tryz.underlying102, ha, Result.andThen]
theorem Tryz.elemPN (w : World) : (ReflectliteType.method ReflectliteType.elem #[.agg #[.pointer (some ⟨1, 102, none⟩)]]).run Tryz.prog w = .ok (.iface 169 (.agg #[.pointer (some ⟨1, 43, none⟩)])) w := by kernel_rfl
theorem Tryz.implementsN (w : World) : (ReflectliteType.relation "Implements" ReflectliteType.implements_ #[.agg #[.pointer (some ⟨1, 43, none⟩)], .iface 169 (.agg #[.pointer (some ⟨1, 47, none⟩)])]).run Tryz.prog w = .ok (.bool true) w := by kernel_rfl
theorem Tryz.typeOfN (v : Value) (w : World) : (ReflectliteType.typeOf #[.iface 43 v]).run Tryz.prog w = .ok (.iface 169 (.agg #[.pointer (some ⟨1, 43, none⟩)])) w := by kernel_rfl
theorem Tryz.typeOfF (v : Value) (w : World) : (ReflectliteType.typeOf #[.iface 96 v]).run Tryz.prog w = .ok (.iface 169 (.agg #[.pointer (some ⟨1, 96, none⟩)])) w := by kernel_rfl
theorem Tryz.assignN (w : World) : (ReflectliteType.relation "AssignableTo" ReflectliteType.assignableTo #[.agg #[.pointer (some ⟨1, 43, none⟩)], .iface 169 (.agg #[.pointer (some ⟨1, 43, none⟩)])]).run Tryz.prog w = .ok (.bool true) w := by kernel_rfl
theorem Tryz.assignF (w : World) : (ReflectliteType.relation "AssignableTo" ReflectliteType.assignableTo #[.agg #[.pointer (some ⟨1, 96, none⟩)], .iface 169 (.agg #[.pointer (some ⟨1, 43, none⟩)])]).run Tryz.prog w = .ok (.bool false) w := by kernel_rfl
theorem Tryz.valueOfN (c : Int) (w : World) : (ReflectliteValue.unpack (.iface 43 (.int .i64 c))).run Tryz.prog w
    = .ok (.agg #[.pointer (some ⟨1, 43, none⟩), .pointer (some ⟨w.heap.size, 0, none⟩), .int .u64 130]) (w.alloc (.cells #[.int .i64 c] 43)) := by kernel_rfl
theorem Tryz.elemOfPN (w : World) : (Rtype.elem? 102).run Tryz.prog w = .ok (some 43) w := by kernel_rfl
theorem Tryz.mkN (p : Addr) (w : World) : (ReflectliteValue.mk 43 p ReflectliteValue.flagAddr).run Tryz.prog w = .ok (.agg #[.pointer (some ⟨1, 43, none⟩), .pointer (some p), .int .u64 386]) w := by kernel_rfl
theorem Tryz.elemVPN (a p : Addr) (W : World) (ha : W.cell? a = some (.pointer (some p))) :
    (ReflectliteValue.method (ReflectliteValue.valueError "reflectlite.Value.Elem" 0) ReflectliteValue.elem #[.agg #[.pointer (some ⟨1, 102, none⟩), .pointer (some a), .int .u64 150]]).run Tryz.prog W
      = .ok (.agg #[.pointer (some ⟨1, 43, none⟩), .pointer (some p), .int .u64 386]) W := by
  rw [as_rlm]
  simp only [Sem.run_bind, Tryz.partsPN, Result.andThen]
  simp [ReflectliteValue.elem, loadVar, isAgg, underlying, Tryz.underlying102, ha, Result.andThen, Tryz.elemOfPN, Tryz.mkN]
theorem as_rls (v x : Value) : ReflectliteValue.set #[v, x] = (do
    let (some (dst, a, fl), some (src, b, _)) := (← ReflectliteValue.parts v, ← ReflectliteValue.parts x)
      | unsupported (.noEntry "extern/(internal/reflectlite.Value).Set.zeroValue")
    if fl / ReflectliteValue.flagAddr % 2 == 0 then unsupported (.noEntry "extern/(internal/reflectlite.Value).Set.unaddressable")
    let val ← loadVar src b
    if ← Rtype.directlyAssignable dst src then storeVar dst a val
    else if ← Rtype.implements dst src then
      if (← Rtype.kind src) == 20 then
        match val with
        | .nilIface => unsupported (.noEntry "extern/reflectlite: a nil value of one interface type handed on as a value of another")
        | _ => storeVar dst a val
      else storeVar dst a (.iface src val)
    else panicString ("reflectlite.Set: value of type " ++ (← Rtype.spelt src) ++ " is not assignable to type " ++ (← Rtype.spelt dst))
    pure (.tuple #[])) := rfl
theorem Tryz.partsNa (a : Addr) (w : World) : (ReflectliteValue.parts (.agg #[.pointer (some ⟨1, 43, none⟩), .pointer (some a), .int .u64 386])).run Tryz.prog w = .ok (some (43, a, 386)) w := by kernel_rfl
theorem Tryz.partsN (a : Addr) (w : World) : (ReflectliteValue.parts (.agg #[.pointer (some ⟨1, 43, none⟩), .pointer (some a), .int .u64 130])).run Tryz.prog w = .ok (some (43, a, 130)) w := by kernel_rfl
theorem Tryz.directN (w : World) : (Rtype.directlyAssignable 43 43).run Tryz.prog w = .ok true w := by kernel_rfl
theorem Tryz.setN (ta b : Addr) (c : Int) (old : Value) (W : World) (hb : W.cell? b = some (.int .i64 c)) (ht : W.cell? ta = some old) (hf : W.frozen? ta = false) :
    (ReflectliteValue.set #[.agg #[.pointer (some ⟨1, 43, none⟩), .pointer (some ta), .int .u64 386], .agg #[.pointer (some ⟨1, 43, none⟩), .pointer (some b), .int .u64 130]]).run Tryz.prog W
      = .ok (.tuple #[]) (W.setCell ta (.int .i64 c)) := by
  rw [as_rls]
  simp only [Sem.run_bind, Tryz.partsNa, Tryz.partsN, Result.andThen]
  simp [ReflectliteValue.flagAddr, loadVar, isAgg, underlying, Tryz.underlying43, hb, Result.andThen, Tryz.directN, storeVar, Value.cells, storeCells, Addr.add]
  rw [run_store Tryz.prog W ta _ _ (by rfl)]
  simp [ht, hf]

/-! ### what the library's assertions find -/
theorem Tryz.noAsF (v : Value) (xT : TypeId) (w : World) : (Instr.typeAssert (.iface 96 v) xT 173 true).run Tryz.prog w = .ok (.tuple #[.nilIface, .bool false]) w := run_typeAssert_lacksB Tryz.underlying173 (by kernel_rfl) (by kernel_rfl) v xT w
theorem Tryz.noIsF (v : Value) (xT : TypeId) (w : World) : (Instr.typeAssert (.iface 96 v) xT 194 true).run Tryz.prog w = .ok (.tuple #[.nilIface, .bool false]) w := run_typeAssert_lacksB Tryz.underlying194 (by kernel_rfl) (by kernel_rfl) v xT w
theorem Tryz.hasUnwrapF (v : Value) (xT : TypeId) (w : World) : (Instr.typeAssert (.iface 96 v) xT 128 true).run Tryz.prog w = .ok (.tuple #[.iface 96 v, .bool true]) w := run_typeAssert_hasB Tryz.underlying128 (by kernel_rfl) v xT w
theorem Tryz.noIsN (v : Value) (xT : TypeId) (w : World) : (Instr.typeAssert (.iface 43 v) xT 194 true).run Tryz.prog w = .ok (.tuple #[.nilIface, .bool false]) w := run_typeAssert_lacksB Tryz.underlying194 (by kernel_rfl) (by kernel_rfl) v xT w
theorem Tryz.noUnwrapN (v : Value) (xT : TypeId) (w : World) : (Instr.typeAssert (.iface 43 v) xT 128 true).run Tryz.prog w = .ok (.tuple #[.nilIface, .bool false]) w := run_typeAssert_lacksB Tryz.underlying128 (by kernel_rfl) (by kernel_rfl) v xT w
theorem Tryz.noUnwrapsN (v : Value) (xT : TypeId) (w : World) : (Instr.typeAssert (.iface 43 v) xT 176 true).run Tryz.prog w = .ok (.tuple #[.nilIface, .bool false]) w := run_typeAssert_lacksB Tryz.underlying176 (by kernel_rfl) (by kernel_rfl) v xT w
theorem Tryz.isFF (v : Value) (w : World) : (Instr.typeAssert (.iface 96 v) 47 96 true).run Tryz.prog w = .ok (.tuple #[v, .bool true]) w := by kernel_rfl
theorem Tryz.isNF (v : Value) (w : World) : (Instr.typeAssert (.iface 43 v) 47 96 true).run Tryz.prog w = .ok (.tuple #[.pointer none, .bool false]) w := by kernel_rfl
theorem Tryz.isnilF (w : World) : (Instr.typeAssert .nilIface 47 96 true).run Tryz.prog w = .ok (.tuple #[.pointer none, .bool false]) w := by kernel_rfl

end Go.Proofs.YtolblnjohaooaaaGreatDoor
namespace Go.Proofs.YtolblnjohaooaaaGreatDoor
open Go.RowKit Go.Extern.Stop Go.Stop Go.Extern
set_option linter.unusedVariables false

theorem Tryz.methUnwrapF (v : Value) (w : World) : (Go.method 346 96 v "Unwrap").run Tryz.prog w = .ok (149, v) w := by kernel_rfl
theorem Tryz.nilUnwrapF (a : Addr) (w : World) : (nilAhead 346 96 (.pointer (some a)) "Unwrap").run Tryz.prog w = .ok (some false) w := by kernel_rfl
set_option maxHeartbeats 400000 in
theorem fault_unwrapM (blk : Nat) (v' : Value) (w : World) (h : w.cell? ⟨blk, 1, none⟩ = some v') :
    Calls Tryz.prog 149 #[.pointer (some ⟨blk, 0, none⟩)] w fun e w' => e = .returned v' ∧ w' = w := by
  go_enter Tryz.func149, Tryz.ntmps149
  go_wp2_with fail
  go_ret
  exact ⟨rfl, rfl⟩
set_option maxHeartbeats 400000 in
theorem errors_unwrapF (blk : Nat) (v' : Value) (w : World) (h : w.cell? ⟨blk, 1, none⟩ = some v') :
    Calls Tryz.prog 38 #[.iface 96 (.pointer (some ⟨blk, 0, none⟩))] w fun e w' => e = .returned v' ∧ w' = w := by
  have h1 := Tryz.hasUnwrapF
  have h2 := Tryz.methUnwrapF
  have h3 := Tryz.nilUnwrapF
  go_enter Tryz.func38, Tryz.ntmps38
  go_wp2_with fail
  refine (fault_unwrapM _ _ _ h).mono ?_
  rintro e w' ⟨rfl, rfl⟩
  go_wp2_with fail
  go_ret
  exact ⟨rfl, rfl⟩
set_option maxHeartbeats 400000 in
theorem errors_unwrapN (c : Value) (w : World) : Calls Tryz.prog 38 #[.iface 43 c] w (Ret .nilIface w) := by
  have h1 := Tryz.noUnwrapN
  go_enter Tryz.func38, Tryz.ntmps38
  go_wp2_with fail
  go_ret
  exact ⟨rfl, Below.refl _ _⟩

theorem Tryz.methAssign (h : Value) (w : World) : (Go.method 346 169 (.agg #[h]) "AssignableTo").run Tryz.prog w = .ok (154, .agg #[h]) w := by kernel_rfl
theorem Tryz.methKind (h : Value) (w : World) : (Go.method 346 169 (.agg #[h]) "Kind").run Tryz.prog w = .ok (143, h) w := by kernel_rfl
theorem Tryz.methElem (h : Value) (w : World) : (Go.method 346 169 (.agg #[h]) "Elem").run Tryz.prog w = .ok (156, .agg #[h]) w := by kernel_rfl
theorem Tryz.methImplements (h : Value) (w : World) : (Go.method 346 169 (.agg #[h]) "Implements").run Tryz.prog w = .ok (157, .agg #[h]) w := by kernel_rfl

def refTV (a : Nat) : Value := .agg #[.pointer (some ⟨1, 102, none⟩), .pointer (some ⟨a, 0, none⟩), .int .u64 150]
/-- where errors.as ends: it has set the target, or it has not -/
def AsPost (T : Nat) (t : Option Int) (w : World) (e : Ending) (w' : World) : Prop :=
  match t with
  | some c => e = .returned (.bool true) ∧ ∃ w1, Below w.heap.size w w1 ∧ w' = w1.setCell ⟨T, 0, none⟩ (.int .i64 c)
  | none => e = .returned (.bool false) ∧ Below w.heap.size w w'

set_option maxRecDepth 100000 in
set_option maxHeartbeats 4000000 in
theorem errors_as1 (T bV : Nat) (old : Int) (t : Option Int) (l : List (Option Int)) (v : Value) (w : World) (hv : ErrV w l t v) (hn : noErr l t = false)
    (hT : Blk w T [.int .i64 old] 43) (hV : w.cell? ⟨bV, 0, none⟩ = some (.pointer (some ⟨T, 0, none⟩))) :
    Calls Tryz.prog 65 #[v, .iface 102 (.pointer (some ⟨T, 0, none⟩)), refTV bV, .iface 169 (.agg #[.pointer (some ⟨1, 43, none⟩)])] w (AsPost T t w) := by
  have x45 := @run_callFunc_extern Tryz.prog 62 _ (fun args => ReflectliteValue.unpack (args.getD 0 (.tuple #[]))) Tryz.func62 (by kernel_rfl) (by kernel_rfl) (by kernel_rfl) (by kernel_rfl)
  have x66 := @run_callFunc_extern Tryz.prog 81 _ ReflectliteType.typeOf Tryz.func81 (by kernel_rfl) (by kernel_rfl) (by kernel_rfl) (by kernel_rfl)
  have x35 := @run_callFunc_extern Tryz.prog 154 _ (ReflectliteType.relation "AssignableTo" ReflectliteType.assignableTo) Tryz.func154 (by kernel_rfl) (by kernel_rfl) (by kernel_rfl) (by kernel_rfl)
  have x11 := @run_callFunc_extern Tryz.prog 83 _ (ReflectliteValue.method (ReflectliteValue.valueError "reflectlite.Value.Elem" 0) ReflectliteValue.elem) Tryz.func83 (by kernel_rfl) (by kernel_rfl) (by kernel_rfl) (by kernel_rfl)
  have x12 := @run_callFunc_extern Tryz.prog 84 _ ReflectliteValue.set Tryz.func84 (by kernel_rfl) (by kernel_rfl) (by kernel_rfl) (by kernel_rfl)
  have y1 := Tryz.typeOfN
  have y2 := Tryz.typeOfF
  have y4 := Tryz.assignN
  have y5 := Tryz.assignF
  have y7 := Tryz.methAssign
  have y8 := Tryz.valueOfN
  have y9 := Tryz.noAsF
  have y10 := Tryz.hasUnwrapF
  have y11 := Tryz.methUnwrapF
  unfold refTV
  go_enter Tryz.func65, Tryz.ntmps65
  go_wp2_with fail
  have kV := Blk.new w [.pointer (some ⟨1, 102, none⟩), .pointer (some ⟨bV, 0, none⟩), .int .u64 150] 134
  have hB := Bl.box w (.cells #[.pointer (some ⟨1, 102, none⟩), .pointer (some ⟨bV, 0, none⟩), .int .u64 150] 134)
  obtain ⟨W, hW⟩ : ∃ W, w.alloc (.cells #[.pointer (some ⟨1, 102, none⟩), .pointer (some ⟨bV, 0, none⟩), .int .u64 150] 134) = W := ⟨_, rfl⟩
  change Blk (w.alloc (.cells #[.pointer (some ⟨1, 102, none⟩), .pointer (some ⟨bV, 0, none⟩), .int .u64 150] 134)) _ _ _ at kV
  rw [hW] at kV hB ⊢
  have hT1 := hT.below hB
  have hV1 := getC hB hV
  have hv1 := hv.below hB
  clear hW hT hV hv
  go_loopg [0] l.length (fun k x wr => ∃ l', l'.length = k ∧ ErrV wr l' t x ∧ noErr l' t = false ∧ Below W.heap.size W wr)
  case atStart => exact ⟨l, rfl, hv1, hn, Below.refl _ _⟩
  case round =>
    obtain ⟨l', hk, hx, hne, hbr⟩ := hrel
    have kT := hT1.below hbr
    have kW := kV.below hbr
    have cV := getC hbr hV1
    have cT := kT.cell (i := 0) rfl
    have fT := kT.frozen 0
    have c60 := kW.cell (i := 0) rfl
    have c61 := kW.cell (i := 1) rfl
    have c62 := kW.cell (i := 2) rfl
    have HK := Lib.hid hk; clear hk
    match l', hx, hne with
    | [], hx, hne =>
      cases t with
      | none => simp [noErr] at hne
      | some c =>
        obtain rfl : u0 = _ := hx
        have z1 := Tryz.elemVPN ⟨bV, 0, none⟩ ⟨T, 0, none⟩ wr cV
        have z2 := Tryz.setN ⟨T, 0, none⟩ ⟨wr.heap.size, 0, none⟩ c (.int .i64 old) (wr.alloc (.cells #[.int .i64 c] 43)) ((Blk.new wr [.int .i64 c] 43).cell (i := 0) rfl) (getA _ cT) ((kT.alloc _).frozen 0)
        go_wp2_with fail
        go_ret
        exact ⟨rfl, _, Bl.next hB (Bl.next hbr (Bl.box _ _)), rfl⟩
    | some b :: r, hx, _ =>
      obtain ⟨blk, v', rfl, hk, h3⟩ := hx
      have h1 := hk.cell (i := 0) rfl
      have h2 := hk.cell (i := 1) rfl
      go_wp2_with fail
      refine (fault_unwrapM _ _ _ h2).mono ?_
      rintro e w' ⟨rfl, rfl⟩
      rcases h3.nil_or with ⟨hz, rfl⟩ | ⟨hz, ty, x, rfl⟩
      · obtain ⟨rfl, rfl⟩ := noErr_true hz
        go_wp2_with fail
        go_ret
        exact ⟨rfl, Bl.next hB hbr⟩
      · go_wp2_with fail
        change _ = _ at HK
        go_roundg r.length
        case measure => rw [← HK]; simp
        case rel => exact ⟨r, rfl, h3, hz, hbr⟩
    | none :: r, hx, _ => exact hx.elim
end Go.Proofs.YtolblnjohaooaaaGreatDoor
namespace Go.Proofs.YtolblnjohaooaaaGreatDoor
open Go.RowKit Go.Extern.Stop Go.Stop Go.Extern
set_option linter.unusedVariables false

/-- the package-level variable errors.errorType, as it lies from the start -/
def ErrT (w : World) : Prop := w.cell? ⟨0, 0, none⟩ = some (.iface 169 (.agg #[.pointer (some ⟨1, 47, none⟩)]))
theorem ErrT.below {w w' : World} (h : ErrT w) (hb : Below w.heap.size w w') : ErrT w' := getC hb h
/-- the number of an error -/
def codeOf (l : List (Option Int)) (t : Option Int) : Int := if noErr l t then 0 else t.getD 18

set_option maxRecDepth 100000 in
set_option maxHeartbeats 4000000 in
theorem errors_As1 (T : Nat) (old : Int) (t : Option Int) (l : List (Option Int)) (v : Value) (w : World) (hg : ErrT w) (hv : ErrV w l t v) (hn : noErr l t = false)
    (hT : Blk w T [.int .i64 old] 43) :
    Calls Tryz.prog 39 #[v, .iface 102 (.pointer (some ⟨T, 0, none⟩))] w (AsPost T t w) := by
  have h1 := @run_callFunc_extern Tryz.prog 62 _ (fun args => ReflectliteValue.unpack (args.getD 0 (.tuple #[]))) Tryz.func62 (by kernel_rfl) (by kernel_rfl) (by kernel_rfl) (by kernel_rfl)
  have h2 := @run_callFunc_extern Tryz.prog 63 _ (ReflectliteValue.methodAny (ReflectliteValue.valueError "reflectlite.Value.Type" 0) (fun t _ _ _ => ReflectliteType.toType t)) Tryz.func63 (by kernel_rfl) (by kernel_rfl) (by kernel_rfl) (by kernel_rfl)
  have h3 := @run_callFunc_extern Tryz.prog 64 _ (ReflectliteValue.method (ReflectliteValue.valueError "reflectlite.Value.IsNil" 0) ReflectliteValue.isNil) Tryz.func64 (by kernel_rfl) (by kernel_rfl) (by kernel_rfl) (by kernel_rfl)
  have h4 := @run_callFunc_extern Tryz.prog 143 _ (ReflectliteType.abiMethod fun t => do pure (.int .u8 (← Rtype.kind t))) Tryz.func143 (by kernel_rfl) (by kernel_rfl) (by kernel_rfl) (by kernel_rfl)
  have h5 := @run_callFunc_extern Tryz.prog 156 _ (ReflectliteType.method ReflectliteType.elem) Tryz.func156 (by kernel_rfl) (by kernel_rfl) (by kernel_rfl) (by kernel_rfl)
  have h6 := @run_callFunc_extern Tryz.prog 157 _ (ReflectliteType.relation "Implements" ReflectliteType.implements_) Tryz.func157 (by kernel_rfl) (by kernel_rfl) (by kernel_rfl) (by kernel_rfl)
  have f1 := Tryz.valueOfPN
  have f2 := Tryz.typePN
  have f3 := Tryz.methKind
  have f4 := Tryz.methElem
  have f5 := Tryz.methImplements
  have f6 := Tryz.kindPN
  have f7 := Tryz.kindN
  have f8 := Tryz.elemPN
  have f9 := Tryz.implementsN
  have hV : Blk (w.alloc (.cells #[.pointer (some ⟨T, 0, none⟩)] 102)) w.heap.size [.pointer (some ⟨T, 0, none⟩)] 102 := Blk.new w _ _
  obtain ⟨O, hO⟩ : ∃ O : Obj, O = .cells #[.pointer (some ⟨1, 102, none⟩), .pointer (some ⟨w.heap.size, 0, none⟩), .int .u64 150] 134 := ⟨_, rfl⟩
  have hV2 := (hV.alloc O).cell (i := 0) rfl
  have n8 := Tryz.isNilPN ⟨w.heap.size, 0, none⟩ ⟨T, 0, none⟩ ((w.alloc (.cells #[.pointer (some ⟨T, 0, none⟩)] 102)).alloc O) hV2
  have hB : Below w.heap.size w ((w.alloc (.cells #[.pointer (some ⟨T, 0, none⟩)] 102)).alloc O) := Bl.next (Bl.box _ _) (Bl.box _ _)
  have g2 := hg.below hB
  have hcall := errors_as1 T w.heap.size old t l v _ (hv.below hB) hn (hT.below hB) hV2
  subst hO
  unfold ErrT at g2
  unfold refTV at hcall
  clear hV hV2 hg hT
  rcases hv.nil_or with ⟨hz, _⟩ | ⟨_, ty, x, rfl⟩
  · rw [hz] at hn; exact nomatch hn
  go_enter Tryz.func39, Tryz.ntmps39
  go_wp2_with fail
  refine hcall.mono ?_
  intro e w' h
  cases t with
  | some c =>
    obtain ⟨rfl, w1, h1, rfl⟩ := h
    go_wp2_with fail
    go_ret
    exact ⟨rfl, w1, Bl.next hB h1, rfl⟩
  | none =>
    obtain ⟨rfl, h1⟩ := h
    go_wp2_with fail
    go_ret
    exact ⟨rfl, Bl.next hB h1⟩

set_option maxHeartbeats 1000000 in
theorem fault_Code (t : Option Int) (l : List (Option Int)) (v : Value) (w : World) (hg : ErrT w) (hv : ErrV w l t v) :
    Calls Tryz.prog 15 #[v] w (Ret (.int .i64 (codeOf l t)) w) := by
  rcases hv.nil_or with ⟨hz, rfl⟩ | ⟨hz, ty, x, rfl⟩
  · simp only [codeOf, hz, if_true]
    go_enter Tryz.func15, Tryz.ntmps15
    go_wp2_with fail
    go_ret
    exact ⟨rfl, Below.refl _ _⟩
  simp only [codeOf, hz, Bool.false_eq_true, if_false]
  have hB := Bl.box w (.cells #[.int .i64 0] 43)
  have kT : Blk (w.alloc (.cells #[.int .i64 0] 43)) w.heap.size [.int .i64 0] 43 := Blk.new w _ _
  have hcall := errors_As1 w.heap.size 0 t l _ _ (hg.below hB) (hv.below hB) hz kT
  clear hg hv
  go_enter Tryz.func15, Tryz.ntmps15
  go_wp2_with fail
  refine hcall.mono ?_
  intro e w' h
  cases t with
  | some c =>
    obtain ⟨rfl, w1, h1, rfl⟩ := h
    have k2 := ((kT.below h1).set 0 (.int .i64 c)).cell (i := 0) rfl
    go_wp2_with fail
    go_ret
    exact ⟨rfl, (Bl.next hB h1).setCell (Nat.le_refl _) _⟩
  | none =>
    obtain ⟨rfl, h1⟩ := h
    go_wp2_with fail
    go_ret
    exact ⟨rfl, Bl.next hB h1⟩

def atL (b : Int) (l : List (Option Int)) (t : Option Int) : List (Option Int) := if noErr l t then l else some b :: l
set_option maxHeartbeats 400000 in
theorem fault_At (b : Int) (t : Option Int) (l : List (Option Int)) (v : Value) (w : World) (hv : ErrV w l t v) :
    Calls Tryz.prog 42 #[.int .i64 b, v] w (RetS (fun w' r => ErrV w' (atL b l t) t r) w) := by
  rcases hv.nil_or with ⟨hz, rfl⟩ | ⟨hz, ty, x, rfl⟩
  · simp only [atL, hz, if_true]
    go_enter Tryz.func42, Tryz.ntmps42
    go_wp2_with fail
    go_ret
    exact ⟨_, rfl, Below.refl _ _, hv⟩
  simp only [atL, hz, Bool.false_eq_true, if_false]
  go_enter Tryz.func42, Tryz.ntmps42
  go_wp2_with fail
  go_ret
  have k := Blk.new w [.int .i64 b, .iface ty x] 99
  exact ⟨_, rfl, Bl.box _ _, w.heap.size, _, rfl, k, hv.below (Bl.box _ _)⟩

/-- the blocks of an error -/
def errM (l : List (Option Int)) (t : Option Int) : Nat := l.length + if t.isSome then 1 else 0
def blocksOf (l : List (Option Int)) : List Int := l.filterMap id
set_option maxRecDepth 100000 in
set_option maxHeartbeats 4000000 in
theorem fault_Blocks (t : Option Int) (l : List (Option Int)) (v : Value) (w : World) (hlen : l.length ≤ 1000000) (hv : ErrV w l t v) :
    Calls Tryz.prog 14 #[v] w (RetS (fun w' r => w'.ownsRow w.heap.size 3 1 r (blocksOf l).length ((blocksOf l).map (Value.int .i64))) w) := by
  obtain ⟨i0, hi0, hz0, hz1, hz2⟩ := info_parts (P := Tryz.prog) (e := 3) (z := .int .i64 0) (size := 1) (bytes := 8) (by kernel_rfl)
  have y1 := Tryz.hasUnwrapF
  have y2 := Tryz.methUnwrapF
  have y3 := Tryz.nilUnwrapF
  have y4 := Tryz.noUnwrapN
  have y7 := Tryz.isFF
  have y8 := Tryz.isNF
  go_enter Tryz.func14, Tryz.ntmps14
  go_wp2_with fail
  go_loopg [0, 3] (errM l t) (fun k x u wr => ∃ l' t' xs, k = errM l' t' ∧ ErrV w l' t' x ∧ wr.ownsRow w.heap.size 3 1 u xs.length (xs.map (Value.int .i64)) ∧ blocksOf l = xs ++ blocksOf l' ∧ Below w.heap.size w wr)
  case atStart => exact ⟨l, t, [], rfl, hv, World.ownsRow_nil _ _ _ _, rfl, Below.refl _ _⟩
  case round =>
    obtain ⟨l', t', xs, hk, hx, hown, hbl, hbr⟩ := hrel
    have HK := Lib.hid hk; clear hk
    have hle : xs.length + (blocksOf l').length ≤ 1000000 := by
      have : (blocksOf l).length ≤ l.length := List.length_filterMap_le _ _
      rw [hbl, List.length_append] at this; omega
    have HB := Lib.hid hbl; clear hbl
    match l', hx with
    | [], hx =>
      cases t' with
      | none =>
        obtain rfl : u0 = _ := hx
        have HO := Lib.hid hown; clear hown
        go_wp2_with fail
        go_ret
        refine ⟨_, rfl, hbr, ?_⟩
        rw [HB.out, show blocksOf [] = [] from rfl, List.append_nil]
        exact HO.out
      | some c =>
        obtain rfl : u0 = _ := hx
        have HO := Lib.hid hown; clear hown
        go_wp2_with fail
        refine (errors_unwrapN _ _).mono ?_
        rintro e w' ⟨rfl, hb⟩
        have HO2 := Lib.hid (own_below HO.out hb)
        go_wp2_with fail
        go_roundg 0
        case measure => rw [HK.out]; simp [errM]
        case rel => exact ⟨[], none, xs, rfl, rfl, HO2.out, HB.out, Bl.next hbr hb⟩
    | some b :: r, hx =>
      obtain ⟨blk, v', rfl, hk, h3⟩ := hx
      have h1 := hk.cell (i := 0) rfl
      have h2 := hk.cell (i := 1) rfl
      have c1 := getC hbr h1
      go_wp2_with (at_builtin; refine Stop.go ?_)
      unfold Stop
      refine app_own rfl _ _ 26 rfl w.heap.size 3 i0 (.int .i64 0) 1 8 Tryz.underlying26 hi0 hz0 hz1 hz2 rfl (by decide) u3 xs.length _ rfl (hown.alloc _) wr.heap.size 1 1 [.int .i64 b] 3 rfl
        (Blk.new wr [.int .i64 b] 3) rfl (by simp [Value.oneCell']) (by unfold maxLen; omega) (by omega) (by have := hbr.size; simp; omega) ?_
      intro v2 w3 hown3 _ hb3
      have hB3 : Below w.heap.size w w3 := (hbr.trans ((Bl.box wr _).mono hbr.size)).trans hb3
      have HO := Lib.hid hown3
      have g2 := getC hB3 h2
      clear hown hown3
      go_wp2_with fail
      refine (errors_unwrapF _ _ _ g2).mono ?_
      rintro e w' ⟨rfl, rfl⟩
      go_wp2_with fail
      go_roundg (errM r t')
      case measure => rw [HK.out]; simp [errM]
      case rel => exact ⟨r, t', xs ++ [b], rfl, h3, by simpa using HO.out, by rw [HB.out]; simp [blocksOf], hB3⟩
    | none :: r, hx => exact hx.elim
end Go.Proofs.YtolblnjohaooaaaGreatDoor
namespace Go.Proofs.YtolblnjohaooaaaGreatDoor
open Go.ChangeShapes Go.WideShapes Go.ChangeAt Go.RowKit Go.Joins
set_option linter.unusedVariables false

theorem ownKnobs : ownKnob Tryz.prog.godebug = none := by kernel_rfl
theorem laidOuts : laidOutB Tryz.prog = true := by kernel_rfl
theorem Tryz.et : Tryz.prog.globalNamed "errors.errorType" = some 0 := by kernel_rfl
theorem Tryz.rt : (Tryz.prog.cutTypes.find? (·.1 == "internal/reflectlite.rtype")).map (·.2) = some 169 := by kernel_rfl
theorem Tryz.oneRow : ((List.range 246).filter fun t => Tryz.prog.rowNamed t [101, 114, 114, 111, 114]) = [47] := by kernel_rfl
theorem Tryz.ntypes : Tryz.prog.types.size = 246 := by kernel_rfl

theorem errT_of_laid {W : World} (h : laidMetH Tryz.prog [("errors.errorType", Rows.laid_errors_errorType)] W) : ErrT W := by
  have h' : laidMet Tryz.prog [] W ∧ handlesMet Tryz.prog [("errors.errorType", Rows.laid_errors_errorType)] W := h
  obtain ⟨name, u, ty, e1, e2, e3, e4, e5⟩ := h'.2 _ (List.mem_singleton.2 rfl)
  have en : name = [101, 114, 114, 111, 114] := (Option.some.inj e1).symm
  subst en
  obtain rfl := Option.some.inj (Tryz.rt.symm.trans e2)
  have hm : ty ∈ (List.range 246).filter fun t => Tryz.prog.rowNamed t [101, 114, 114, 111, 114] := List.mem_filter.2 ⟨List.mem_range.2 (by rw [← Tryz.ntypes]; exact e3), e4⟩
  rw [Tryz.oneRow] at hm
  obtain rfl := List.mem_singleton.1 hm
  have hh : typeHandle Tryz.prog 47 = .pointer (some ⟨1, 47, none⟩) := by kernel_rfl
  rw [hh] at e5
  simpa [ErrT] using World.var?_cell Tryz.et e5 0

noncomputable def laidWorld (os : Os) : World :=
  let w0 := World.holding Tryz.prog os ⟨#[], #[], []⟩
  { w0 with heap := w0.heap.modify 0 fun
      | .cells _ t frozen => .cells #[.iface 169 (.agg #[.pointer (some ⟨1, 47, none⟩)])] t frozen
      | o => o }
theorem laidWorld_met (os : Os) (args : Array Value) : laidMetH Tryz.prog [("errors.errorType", Rows.laid_errors_errorType)] ((laidWorld os).forCall (fun _ _ => 0) ⟨#[], args, []⟩).memory :=
  laidMetH_of_parts (laidMet_nil _ _) (by kernel_rfl)
end Go.Proofs.YtolblnjohaooaaaGreatDoor
namespace Go.Proofs.YtolblnjohaooaaaGreatDoor
open Go.RowKit
set_option linter.unusedVariables false

def hasB (lo hi k : Int) : Bool := decide (lo ≤ k ∧ k < hi)
def rightB (lo hi : Int) : Bool := decide (0 ≤ lo ∧ lo ≤ hi ∧ hi ≤ 281474976710656)
def SortP (l : List Int) : Prop := ∀ k, k < l.length → 1 ≤ k → l[k-1]?.getD 0 < l[k]?.getD 0
instance (l : List Int) : Decidable (SortP l) := by unfold SortP; infer_instance
def fitsI (lo hi : Int) (l : List Int) : Int :=
  if rightB lo hi then if SortP l then if ∀ k ∈ l, lo ≤ k ∧ k < hi then 0 else 9 else 8 else 1
@[go_sem] def spanV (lo hi : Int) : Value := .agg #[.int .i64 lo, .int .i64 hi]

theorem SortP.lt {l : List Int} (h : SortP l) : ∀ (j i : Nat), i < j → j < l.length → l[i]?.getD 0 < l[j]?.getD 0 := by
  intro j
  induction j with
  | zero => intro i h1; omega
  | succ j ih =>
    intro i h1 h2
    have h3 := h (j + 1) h2 (by omega)
    simp only [Nat.add_sub_cancel] at h3
    by_cases hij : i = j
    · subst hij; exact h3
    · exact Int.lt_trans (ih i (by omega) (by omega)) h3
theorem SortP.one (l : List Int) : SortP (l.take 1) := by
  intro k h1 h2; simp at h1; omega
theorem SortP.succ {l : List Int} {k : Nat} {x y : Int} (h : SortP (l.take k)) (hx : l[k-1]? = some x) (hy : l[k]? = some y) (hxy : x < y) : SortP (l.take (k + 1)) := by
  intro j h1 h2
  have hjk : j < k + 1 := by simp at h1; omega
  rw [List.getElem?_take, List.getElem?_take, if_pos (by omega), if_pos hjk]
  by_cases hj : j = k
  · subst hj; rw [hx, hy]; exact hxy
  · have := h j (by simp at h1 ⊢; omega) h2
    rw [List.getElem?_take, List.getElem?_take, if_pos (by omega), if_pos (by omega)] at this
    exact this
theorem fits_right {lo hi : Int} {l : List Int} (h : rightB lo hi = false) : fitsI lo hi l = 1 := by simp [fitsI, h]
theorem fits_order {lo hi : Int} {l : List Int} {k : Nat} {x y : Int} (h : rightB lo hi = true) (hk : 1 ≤ k) (hx : l[k-1]? = some x) (hy : l[k]? = some y) (hxy : y ≤ x) : fitsI lo hi l = 8 := by
  have hn : ¬ SortP l := fun hs => by
    have hlt : k < l.length := by rcases List.getElem?_eq_some_iff.1 hy with ⟨h, _⟩; exact h
    have := hs k hlt hk
    rw [hx, hy] at this
    simp at this; omega
  simp [fitsI, h, hn]
theorem fits_nil {lo hi : Int} (h : rightB lo hi = true) : fitsI lo hi [] = 0 := by
  have hs : SortP [] := fun k h1 => by simp at h1
  simp [fitsI, h, hs]
theorem SortP.all {l : List Int} {k : Nat} (h : SortP (l.take k)) (hk : l.length ≤ k) : SortP l := by rwa [List.take_of_length_le hk] at h
theorem hasB_iff {lo hi k : Int} : hasB lo hi k = true ↔ lo ≤ k ∧ k < hi := by simp [hasB]
theorem fits_in {lo hi : Int} {l : List Int} {x y : Int} (h : rightB lo hi = true) (hs : SortP l) (hx : l[0]? = some x) (hy : l[l.length - 1]? = some y) (ha : hasB lo hi x = true) (hb : hasB lo hi y = true) : fitsI lo hi l = 0 := by
  have hall : ∀ k ∈ l, lo ≤ k ∧ k < hi := by
    intro k hk
    obtain ⟨i, hi', rfl⟩ := List.mem_iff_getElem.1 hk
    rw [hasB_iff] at ha hb
    have e : l[i]? = some l[i] := by simp
    have h1 : x ≤ l[i] := by
      by_cases h0 : i = 0
      · subst h0; rw [hx] at e; injection e with e; omega
      · have := hs.lt i 0 (by omega) hi'
        rw [hx, e] at this; simp at this; omega
    have h2 : l[i] ≤ y := by
      by_cases h0 : i = l.length - 1
      · subst h0; rw [hy] at e; injection e with e; omega
      · have := hs.lt (l.length - 1) i (by omega) (by omega)
        rw [hy, e] at this; simp at this; omega
    omega
  simp only [fitsI, h, if_true, hs]
  rw [if_pos hall]
theorem fits_out {lo hi : Int} {l : List Int} {i : Nat} {x : Int} (h : rightB lo hi = true) (hs : SortP l) (hx : l[i]? = some x) (ha : hasB lo hi x = false) : fitsI lo hi l = 9 := by
  have hn : ¬ ∀ k ∈ l, lo ≤ k ∧ k < hi := fun hall => by
    have := hasB_iff.2 (hall x (List.mem_of_getElem? hx))
    rw [ha] at this; cases this
  simp only [fitsI, h, if_true, hs]
  rw [if_neg hn]

set_option maxHeartbeats 400000 in
theorem span_all (w : World) : Calls Tryz.prog 23 #[] w (Ret (spanV 0 281474976710656) w) := by
  go_enter Tryz.func23, Tryz.ntmps23
  go_wp2
  exact bodyPost_ret (v := spanV 0 281474976710656) (by simp [results, Tryz.results23, go_sem, spanV]) rfl ⟨rfl, Bl.box _ _⟩
set_option maxHeartbeats 400000 in
theorem span_has (lo hi k : Int) (w : World) : Calls Tryz.prog 91 #[spanV lo hi, .int .i64 k] w (Ret (.bool (hasB lo hi k)) w) := by
  unfold spanV
  go_enter Tryz.func91, Tryz.ntmps91
  go_wp2
  all_goals go_ret
  all_goals refine ⟨?_, Bl.box _ _⟩
  all_goals (unfold hasB; congr 2; simp; omega)
set_option maxHeartbeats 400000 in
theorem span_right (lo hi : Int) (w : World) : Calls Tryz.prog 90 #[spanV lo hi] w (Ret (.bool (rightB lo hi)) w) := by
  unfold spanV
  go_enter Tryz.func90, Tryz.ntmps90
  go_wp2_with fail
  refine (span_all _).mono ?_
  rintro e w' ⟨rfl, hb⟩
  have hz : w.heap.size < w'.heap.size := ltB hb (by simp)
  have h0 := getC hb (p := ⟨w.heap.size, 0, none⟩) (v := .int .i64 lo) (by simp [go_sem])
  have h1 := getC hb (p := ⟨w.heap.size, 1, none⟩) (v := .int .i64 hi) (by simp [go_sem])
  unfold spanV
  go_wp2_with fail
  all_goals go_ret
  all_goals refine ⟨?_, Bl.next (Bl.next (Bl.box w _) hb) (Bl.box _ _)⟩
  all_goals (unfold rightB; congr 2; simp [*]; try omega)

set_option maxHeartbeats 1000000 in
theorem span_fits (lo hi : Int) (v : Value) (l : List Int) (w : World) (hl : Ints w v l) :
    Calls Tryz.prog 69 #[spanV lo hi, v] w (Ret (.int .i64 (fitsI lo hi l)) w) := by
  by_cases hr : rightB lo hi = true
  case neg =>
    have hr' : rightB lo hi = false := by simpa using hr
    unfold spanV
    rcases hl with ⟨a0, c0, rfl, hl0, hl⟩ | ⟨b, off, cap, rfl, hcap, hmax, hc⟩
    all_goals
      go_enter Tryz.func69, Tryz.ntmps69
      go_wp2_with fail
      refine (span_right _ _ _).mono ?_
      rintro e w' ⟨rfl, hb⟩
      go_wp2_with fail
      go_ret
      exact ⟨by rw [fits_right hr']; rfl, Bl.next (Bl.box w _) hb⟩
  rcases hl with ⟨a0, c0, rfl, hl0, hl⟩ | ⟨b, off, cap, rfl, hcap, hmax, hc⟩
  · obtain rfl : l = [] := by simpa using hl
    unfold spanV
    go_enter Tryz.func69, Tryz.ntmps69
    go_wp2_with fail
    refine (span_right _ _ _).mono ?_
    rintro e w' ⟨rfl, hb⟩
    go_wp2_with fail
    go_loop [5] (fun i => i = .int .i64 1) (fun _ => 0)
    case atStart => exact rfl
    case round =>
      obtain rfl := hrel
      go_wp2_with fail
      refine wp_region_ext (by kernel_rfl) (by kernel_rfl) ?_
      repeat (go_big_quiet_step (fail))
      refine wpQuiet_nil ?_
      intro wx
      go_wp2_with fail
      go_ret
      exact ⟨by rw [fits_nil hr]; rfl, Bl.next (Bl.next (Bl.box w _) hb) wx.below⟩
  · unfold maxLen at hmax
    unfold spanV
    go_enter Tryz.func69, Tryz.ntmps69
    go_wp2_with fail
    refine (span_right _ _ _).mono ?_
    rintro e w' ⟨rfl, hb⟩
    have hz : w.heap.size < w'.heap.size := ltB hb (by simp)
    have h0 := getC hb (p := ⟨w.heap.size, 0, none⟩) (v := .int .i64 lo) (by simp [go_sem])
    have h1 := getC hb (p := ⟨w.heap.size, 1, none⟩) (v := .int .i64 hi) (by simp [go_sem])
    have hB := Bl.next (Bl.box w _) hb
    have HC := Lib.hid (fun j x (hj : l[j]? = some x) => getC hb (getA _ (hc j (.int .i64 x) (by simp [hj]))))
    clear hc hb
    go_wp2_with fail
    go_loopw [5] (fun i wr => ∃ k : Nat, 1 ≤ k ∧ i = .int .i64 k ∧ SortP (l.take k) ∧ Below w'.heap.size w' wr) (fun i _ => l.length - (intOf i).toNat)
    case atStart => exact ⟨1, by omega, rfl, SortP.one l, Below.refl _ _⟩
    case round =>
      obtain ⟨k, hk1, rfl, hs, hbr⟩ := hrel
      have HS := Lib.hid hs; clear hs
      by_cases hlt : k < l.length
      · obtain ⟨x, hx⟩ : ∃ x, l[k-1]? = some x := ⟨l[k-1], by simp⟩
        obtain ⟨y, hy⟩ : ∃ y, l[k]? = some y := ⟨l[k], by simp⟩
        have hcx := getC hbr (HC.out _ _ hx)
        have hcy := getC hbr (HC.out _ _ hy)
        have HX := Lib.hid hx; clear hx
        have HY := Lib.hid hy; clear hy
        go_wp2_with fail
        go_quiet (fail)
        go_wp2_with fail
        · go_ret
          exact ⟨by rw [fits_order hr hk1 HX.out HY.out (by assumption)]; rfl, Bl.next hB (Bl.drewN hbr _)⟩
        · go_roundw
          case rel => exact ⟨k + 1, by omega, by go_num, HS.out.succ HX.out HY.out (by assumption), Bl.drewN hbr _⟩
          case measure => simp [intOf]; omega
      · have hkk : l.length ≤ k := by omega
        by_cases h0l : l.length = 0
        · obtain rfl : l = [] := List.length_eq_zero_iff.mp h0l
          clear h0l
          go_wp2_with fail
          go_quiet (fail)
          go_wp2_with fail
          go_ret
          exact ⟨by rw [fits_nil hr]; rfl, Bl.next hB (Bl.drewN hbr _)⟩
        · obtain ⟨x, hx⟩ : ∃ x, l[0]? = some x := ⟨l[0], by simp⟩
          obtain ⟨y, hy⟩ : ∃ y, l[l.length-1]? = some y := ⟨l[l.length-1], by simp⟩
          have hpos : 0 < l.length := by omega
          have e0 : ∀ z : Ext wr, z.val.cell? ⟨w.heap.size, 0, none⟩ = some (.int .i64 lo) := fun z => z.get (getC hbr h0)
          have e1 : ∀ z : Ext wr, z.val.cell? ⟨w.heap.size, 1, none⟩ = some (.int .i64 hi) := fun z => z.get (getC hbr h1)
          have e2 : ∀ z : Ext wr, z.val.cell? ⟨b, off, none⟩ = some (.int .i64 x) := fun z => z.get (getC hbr (HC.out 0 _ hx))
          have e3 : ∀ z : Ext wr, z.val.cell? ⟨b, off + (l.length - 1), none⟩ = some (.int .i64 y) := fun z => z.get (getC hbr (HC.out _ _ hy))
          have HX := Lib.hid hx; clear hx
          have HY := Lib.hid hy; clear hy
          by_cases ha : hasB lo hi x = true
          · by_cases hb2 : hasB lo hi y = true
            · go_wp2_with fail
              refine wp_region_ext (by kernel_rfl) (by kernel_rfl) ?_
              repeat (go_big_quiet_step (exact Ret.ext (span_has _ _ _ _)))
              refine wpQuiet_nil ?_
              intro wx
              go_wp2_with fail
              go_ret
              exact ⟨by rw [fits_in hr (HS.out.all hkk) HX.out HY.out ha hb2]; rfl, Bl.next (Bl.next hB hbr) wx.below⟩
            · have hb2 : hasB lo hi y = false := by simpa using hb2
              go_wp2_with fail
              refine wp_region_ext (by kernel_rfl) (by kernel_rfl) ?_
              repeat (go_big_quiet_step (exact Ret.ext (span_has _ _ _ _)))
              refine wpQuiet_nil ?_
              intro wx
              go_wp2_with fail
              go_ret
              exact ⟨by rw [fits_out hr (HS.out.all hkk) HY.out hb2]; rfl, Bl.next (Bl.next hB hbr) wx.below⟩
          · have ha : hasB lo hi x = false := by simpa using ha
            go_wp2_with fail
            refine wp_region_ext (by kernel_rfl) (by kernel_rfl) ?_
            repeat (go_big_quiet_step (exact Ret.ext (span_has _ _ _ _)))
            refine wpQuiet_nil ?_
            intro wx
            go_wp2_with fail
            go_ret
            exact ⟨by rw [fits_out hr (HS.out.all hkk) HX.out ha]; rfl, Bl.next (Bl.next hB hbr) wx.below⟩
end Go.Proofs.YtolblnjohaooaaaGreatDoor
namespace Go.Proofs.YtolblnjohaooaaaGreatDoor
open Go.RowKit
set_option linter.unusedVariables false
attribute [local go_sem] Oper.semAt_some

/-- the children's spans -/
def partAt (hi : Int) (l : List Int) (i : Nat) : Int × Int := (l[i]?.getD 0, l[i+1]?.getD hi)
/-- what comes as number j: the child's number -/
def qOf {n : Nat} (j : Fin n) : Nat := n - 1 - j.val
def encE (hi : Int) (l : List Int) (j : Fin l.length) : Array Value := #[.int .i64 (qOf j : Int), spanV (partAt hi l (qOf j)).1 (partAt hi l (qOf j)).2]
theorem fin_take_succ {n k : Nat} (h : k < n) : (List.finRange n).take (k + 1) = (List.finRange n).take k ++ [⟨k, h⟩] := by
  rw [List.take_succ_eq_append_getElem (by simpa using h)]; simp
theorem fin_take_all (n : Nat) : (List.finRange n).take n = List.finRange n := List.take_of_length_le (by simp)
theorem fin_take_length {n k : Nat} (h : k ≤ n) : ((List.finRange n).take k).length = k := by simp [h]

set_option maxRecDepth 100000 in
set_option maxHeartbeats 2000000 in
theorem each1_in (l Bs Bk : Nat) (p : Nat → Prop) (hi : Int) (b off cap : Nat) (zs : List Int) (hlen : zs.length ≤ 9223372036854775807) (hb' : zs.length = 0 ∨ p b) (hBk : p Bk) (J Jx : List (Fin zs.length) → World → Prop)
    (hY : ∀ pre x W, J pre W → pre.length < zs.length → YieldAt Fence.wide 2 Tryz.prog l (encE hi zs x) W fun e W' =>
      (e = .returned (.bool true) ∧ J (pre ++ [x]) W' ∧ Keeps p W W') ∨ (e = .returned (.bool false) ∧ Jx (pre ++ [x]) W'))
    (W : World) (hc1 : W.cell? ⟨Bs, 1, none⟩ = some (.int .i64 hi)) (hck : W.cell? ⟨Bk, 0, none⟩ = some (.slice (some ⟨b, off, none⟩) zs.length cap))
    (hc : ∀ j x, zs[j]? = some x → W.cell? ⟨b, off + j, none⟩ = some (.int .i64 x)) (h0 : J [] W) :
    CallsIn Fence.wide 3 Tryz.prog 92 #[.func (.yield l) #[] #[], .pointer (some ⟨Bs, 0, none⟩), .pointer (some ⟨Bk, 0, none⟩)] W fun e W' => (∃ v, e = .returned v) ∧
      ((∃ ys, ys = List.finRange zs.length ∧ J ys W') ∨ (∃ pre, (∃ k, k ≤ zs.length ∧ pre = (List.finRange zs.length).take k) ∧ Jx pre W')) := by
  refine callsIn_of_wp Tryz.func92 rfl trivial ?_ rfl
  simp only [Tryz.ntmps92, List.size_toArray, List.length_cons, List.length_nil, Nat.reduceAdd, Nat.reduceSub, Array.replicate_succ, Array.replicate_zero, List.push_toArray, List.append_toArray, List.nil_append, List.cons_append]
  gi_wp2
  gi_loopw [4, 5] (fun h i wr => ∃ k : Nat, k ≤ zs.length ∧ i = .int .i64 ((zs.length : Int) - 1 - k) ∧ h = .int .i64 (zs[zs.length - k]?.getD hi) ∧ J ((List.finRange zs.length).take k) wr ∧ Keeps p W wr)
    (fun _ i _ => ((intOf i) + 1).toNat)
  case atStart => exact ⟨0, Nat.zero_le _, by simp, by simp, h0, Keeps.refl _ _⟩
  case round =>
    obtain ⟨k, hk, rfl, rfl, hJs, hnx⟩ := hrel
    generalize hhv : zs[zs.length - k]?.getD hi = hv
    by_cases hlt : k < zs.length
    · have hb : p b := hb'.resolve_left (by omega)
      obtain ⟨x, hx⟩ : ∃ x, zs[zs.length - 1 - k]? = some x := ⟨zs[zs.length - 1 - k], by simp⟩
      have hck' := (hnx.cell (a := ⟨Bk, 0, none⟩) hBk).trans hck
      have hcx := (hnx.cell (a := ⟨b, off + (zs.length - 1 - k), none⟩) hb).trans (hc _ _ hx)
      obtain ⟨q, hq⟩ : ∃ q : Nat, q = zs.length - 1 - k := ⟨_, rfl⟩
      have hqi : ((zs.length : Int) - 1 - k) = (q : Int) := by omega
      have hql : q < zs.length := by omega
      obtain ⟨fn, tmps, assign, body, hy, hR⟩ := hY _ ⟨k, hlt⟩ wr hJs (by rw [fin_take_length hk]; exact hlt)
      have hE : encE hi zs ⟨k, hlt⟩ = #[.int .i64 (q : Int), .agg #[.int .i64 x, .int .i64 hv]] := by
        have e0 : zs[q]? = some x := by rw [hq]; exact hx
        have e1 : q + 1 = zs.length - k := by omega
        have e2 : qOf (⟨k, hlt⟩ : Fin zs.length) = q := hq.symm
        simp only [encE, partAt, spanV, e2, e0, e1, hhv, Option.getD_some]
      rw [hE] at hy
      rw [← hq] at hcx
      rw [hqi]
      have HQ := Lib.hid hq; clear hq
      have HI := Lib.hid hqi; clear hqi
      have HX := Lib.hid hx; clear hx
      have HV := Lib.hid hhv; clear hhv
      have HE := Lib.hid hE; clear hE
      gi_wp2
      refine hR.mono ?_
      rintro e W3 (⟨rfl, hJ3, hk3⟩ | ⟨rfl, hJx3⟩)
      · have hck3 := (hk3.cell (a := ⟨Bk, 0, none⟩) hBk).trans hck'
        have hcx3 := (hk3.cell (a := ⟨b, off + q, none⟩) hb).trans hcx
        gi_wp2
        go_roundw
        case rel =>
          refine ⟨k + 1, by omega, ?_, ?_, by rw [fin_take_succ hlt]; exact hJ3, hnx.trans hk3⟩
          · exact congrArg (Value.int .i64) (by have := HI.out; omega)
          · have h1 : zs.length - (k + 1) = q := by have := HQ.out; omega
            have := HX.out
            rw [← HQ.out] at this
            rw [h1, this]; rfl
        case measure => simp [intOf]
      · gi_wp2
        refine bodyPost_ret (results_none rfl _ _ _) rfl ?_
        exact ⟨⟨_, rfl⟩, .inr ⟨_, ⟨k + 1, by omega, by rw [fin_take_succ hlt]⟩, hJx3⟩⟩
    · obtain rfl : k = zs.length := by omega
      have hneg : ((zs.length : Int) - 1 - zs.length) = -1 := by omega
      rw [hneg]
      clear hneg hhv
      rw [fin_take_all] at hJs
      have HJ := Lib.hid hJs; clear hJs
      gi_wp2
      go_end0
      exact ⟨⟨_, rfl⟩, .inl ⟨_, rfl, HJ.out⟩⟩

set_option maxRecDepth 100000 in
set_option maxHeartbeats 1000000 in
theorem each1_nil_in {α : Type} (l Bs Bk : Nat) (hi : Int) (J : List α → World → Prop) (W : World) (hc1 : W.cell? ⟨Bs, 1, none⟩ = some (.int .i64 hi)) {a0 : Option Addr} {c0 : Nat} (hck : W.cell? ⟨Bk, 0, none⟩ = some (.slice a0 0 c0)) (h0 : J [] W) :
    CallsIn Fence.wide 3 Tryz.prog 92 #[.func (.yield l) #[] #[], .pointer (some ⟨Bs, 0, none⟩), .pointer (some ⟨Bk, 0, none⟩)] W fun e W' => (∃ v, e = .returned v) ∧ J [] W' := by
  refine callsIn_of_wp Tryz.func92 rfl trivial ?_ rfl
  simp only [Tryz.ntmps92, List.size_toArray, List.length_cons, List.length_nil, Nat.reduceAdd, Nat.reduceSub, Array.replicate_succ, Array.replicate_zero, List.push_toArray, List.append_toArray, List.nil_append, List.cons_append]
  gi_wp2
  gi_loopw [4, 5] (fun _ i wr => i = .int .i64 (-1) ∧ J [] wr) (fun _ _ _ => 0)
  case atStart => exact ⟨rfl, h0⟩
  case round =>
    obtain ⟨rfl, hJs⟩ := hrel
    gi_wp2
    go_end0
    exact ⟨⟨_, rfl⟩, hJs⟩

theorem each_stops (Bs Bk : Nat) (p : Nat → Prop) (hi : Int) (v : Value) (zs : List Int) (w : World) (hp : ∀ b, p b → b < w.heap.size) (hk : p Bk) (hs : p Bs) (hlen : zs.length ≤ 9223372036854775807) (hv : Ints w v zs)
    (hvp : zs.length ≠ 0 → ∀ b off n cap, v = .slice (some ⟨b, off, none⟩) n cap → p b)
    (hc1 : w.cell? ⟨Bs, 1, none⟩ = some (.int .i64 hi)) (hck : w.cell? ⟨Bk, 0, none⟩ = some v) :
    SeqStopsK Fence.wide 3 Tryz.prog 92 #[.pointer (some ⟨Bs, 0, none⟩), .pointer (some ⟨Bk, 0, none⟩)] (encE hi zs) (Keeps p)
      (fun ys => ys = List.finRange zs.length) (fun pre => ∃ k, k ≤ zs.length ∧ pre = (List.finRange zs.length).take k) zs.length w := fun l J Jx W hW _ _ hY h0 => by
  have hc1' := getC hW hc1
  have hck' := getC hW hck
  rcases hv with ⟨a0, c0, rfl, h1, h2⟩ | ⟨b, off, cap, rfl, hcap, hmax, hcs⟩
  · obtain rfl : zs = [] := by simpa using h2
    exact (each1_nil_in l Bs Bk hi J W hc1' hck' h0).mono fun e W' ⟨he, hj⟩ => ⟨he, .inl ⟨_, rfl, hj⟩⟩
  · refine each1_in l Bs Bk p hi b off cap zs hlen ?_ hk J Jx hY W hc1' hck' (fun j x hj => getC hW (hcs j _ (by simp [hj]))) h0
    by_cases h : zs.length = 0
    · exact .inl h
    · exact .inr (hvp h _ _ _ _ rfl)

set_option maxHeartbeats 400000 in
theorem span_each (lo hi : Int) (a : Option Addr) (n c : Nat) (w : World) : Calls Tryz.prog 70 #[spanV lo hi, .slice a n c] w fun e w' =>
    e = .returned (.func (.func 92) #[] #[.pointer (some ⟨w.heap.size, 0, none⟩), .pointer (some ⟨w.heap.size + 1, 0, none⟩)]) ∧
    w' = (w.alloc (.cells #[.int .i64 lo, .int .i64 hi] 67)).alloc (.cells #[.slice a n c] 26) := by
  unfold spanV
  go_enter Tryz.func70, Tryz.ntmps70
  go_wp2
  go_ret
  exact ⟨rfl, rfl⟩
end Go.Proofs.YtolblnjohaooaaaGreatDoor
namespace Go.Proofs.YtolblnjohaooaaaGreatDoor
open Go.RowKit
set_option linter.unusedVariables false
attribute [local go_sem] Oper.semAt_some
def encB (l : List Int) (j : Fin l.length) : Array Value := #[.int .i64 (qOf j : Int), .int .i64 (l[qOf j]?.getD 0)]
set_option maxRecDepth 100000 in
set_option maxHeartbeats 2000000 in
theorem back1_in (l Bk : Nat) (p : Nat → Prop) (b off cap : Nat) (zs : List Int) (hlen : zs.length ≤ 9223372036854775807) (hb' : zs.length = 0 ∨ p b) (hBk : p Bk) (J Jx : List (Fin zs.length) → World → Prop)
    (hY : ∀ pre x W, J pre W → pre.length < zs.length → YieldAt Fence.wide 2 Tryz.prog l (encB zs x) W fun e W' =>
      (e = .returned (.bool true) ∧ J (pre ++ [x]) W' ∧ Keeps p W W') ∨ (e = .returned (.bool false) ∧ Jx (pre ++ [x]) W'))
    (W : World) (hck : W.cell? ⟨Bk, 0, none⟩ = some (.slice (some ⟨b, off, none⟩) zs.length cap))
    (hc : ∀ j x, zs[j]? = some x → W.cell? ⟨b, off + j, none⟩ = some (.int .i64 x)) (h0 : J [] W) :
    CallsIn Fence.wide 3 Tryz.prog 85 #[.func (.yield l) #[] #[], .pointer (some ⟨Bk, 0, none⟩)] W fun e W' => (∃ v, e = .returned v) ∧
      ((∃ ys, ys = List.finRange zs.length ∧ J ys W') ∨ (∃ pre, (∃ k, k ≤ zs.length ∧ pre = (List.finRange zs.length).take k) ∧ Jx pre W')) := by
  refine callsIn_of_wp Tryz.func85 rfl trivial ?_ rfl
  simp only [Tryz.ntmps85, List.size_toArray, List.length_cons, List.length_nil, Nat.reduceAdd, Nat.reduceSub, Array.replicate_succ, Array.replicate_zero, List.push_toArray, List.append_toArray, List.nil_append, List.cons_append]
  gi_wp2
  gi_loopw [3] (fun i wr => ∃ k : Nat, k ≤ zs.length ∧ i = .int .i64 ((zs.length : Int) - 1 - k) ∧ J ((List.finRange zs.length).take k) wr ∧ Keeps p W wr)
    (fun i _ => ((intOf i) + 1).toNat)
  case atStart => exact ⟨0, Nat.zero_le _, by simp, h0, Keeps.refl _ _⟩
  case round =>
    obtain ⟨k, hk, rfl, hJs, hnx⟩ := hrel
    by_cases hlt : k < zs.length
    · have hb : p b := hb'.resolve_left (by omega)
      obtain ⟨x, hx⟩ : ∃ x, zs[zs.length - 1 - k]? = some x := ⟨zs[zs.length - 1 - k], by simp⟩
      have hck' := (hnx.cell (a := ⟨Bk, 0, none⟩) hBk).trans hck
      have hcx := (hnx.cell (a := ⟨b, off + (zs.length - 1 - k), none⟩) hb).trans (hc _ _ hx)
      obtain ⟨q, hq⟩ : ∃ q : Nat, q = zs.length - 1 - k := ⟨_, rfl⟩
      have hqi : ((zs.length : Int) - 1 - k) = (q : Int) := by omega
      have hql : q < zs.length := by omega
      obtain ⟨fn, tmps, assign, body, hy, hR⟩ := hY _ ⟨k, hlt⟩ wr hJs (by rw [fin_take_length hk]; exact hlt)
      have hE : encB zs ⟨k, hlt⟩ = #[.int .i64 (q : Int), .int .i64 x] := by
        have e0 : zs[q]? = some x := by rw [hq]; exact hx
        have e2 : qOf (⟨k, hlt⟩ : Fin zs.length) = q := hq.symm
        simp only [encB, e2, e0, Option.getD_some]
      rw [hE] at hy
      rw [← hq] at hcx
      rw [hqi]
      have HQ := Lib.hid hq; clear hq
      have HI := Lib.hid hqi; clear hqi
      have HX := Lib.hid hx; clear hx
      have HE := Lib.hid hE; clear hE
      gi_wp2
      refine hR.mono ?_
      rintro e W3 (⟨rfl, hJ3, hk3⟩ | ⟨rfl, hJx3⟩)
      · gi_wp2
        go_roundw
        case rel =>
          refine ⟨k + 1, by omega, ?_, by rw [fin_take_succ hlt]; exact hJ3, hnx.trans hk3⟩
          exact congrArg (Value.int .i64) (by have := HI.out; omega)
        case measure => simp [intOf]
      · gi_wp2
        refine bodyPost_ret (results_none rfl _ _ _) rfl ?_
        exact ⟨⟨_, rfl⟩, .inr ⟨_, ⟨k + 1, by omega, by rw [fin_take_succ hlt]⟩, hJx3⟩⟩
    · obtain rfl : k = zs.length := by omega
      have hneg : ((zs.length : Int) - 1 - zs.length) = -1 := by omega
      rw [hneg]
      clear hneg
      rw [fin_take_all] at hJs
      have HJ := Lib.hid hJs; clear hJs
      gi_wp2
      go_end0
      exact ⟨⟨_, rfl⟩, .inl ⟨_, rfl, HJ.out⟩⟩
set_option maxRecDepth 100000 in
set_option maxHeartbeats 1000000 in
theorem back1_nil_in {α : Type} (l Bk : Nat) (J : List α → World → Prop) (W : World) {a0 : Option Addr} {c0 : Nat} (hck : W.cell? ⟨Bk, 0, none⟩ = some (.slice a0 0 c0)) (h0 : J [] W) :
    CallsIn Fence.wide 3 Tryz.prog 85 #[.func (.yield l) #[] #[], .pointer (some ⟨Bk, 0, none⟩)] W fun e W' => (∃ v, e = .returned v) ∧ J [] W' := by
  refine callsIn_of_wp Tryz.func85 rfl trivial ?_ rfl
  simp only [Tryz.ntmps85, List.size_toArray, List.length_cons, List.length_nil, Nat.reduceAdd, Nat.reduceSub, Array.replicate_succ, Array.replicate_zero, List.push_toArray, List.append_toArray, List.nil_append, List.cons_append]
  gi_wp2
  gi_loopw [3] (fun i wr => i = .int .i64 (-1) ∧ J [] wr) (fun _ _ => 0)
  case atStart => exact ⟨rfl, h0⟩
  case round =>
    obtain ⟨rfl, hJs⟩ := hrel
    gi_wp2
    go_end0
    exact ⟨⟨_, rfl⟩, hJs⟩
theorem back_stops (Bk : Nat) (p : Nat → Prop) (v : Value) (zs : List Int) (w : World) (hp : ∀ b, p b → b < w.heap.size) (hk : p Bk) (hlen : zs.length ≤ 9223372036854775807) (hv : Ints w v zs)
    (hvp : zs.length ≠ 0 → ∀ b off n cap, v = .slice (some ⟨b, off, none⟩) n cap → p b) (hck : w.cell? ⟨Bk, 0, none⟩ = some v) :
    SeqStopsK Fence.wide 3 Tryz.prog 85 #[.pointer (some ⟨Bk, 0, none⟩)] (encB zs) (Keeps p)
      (fun ys => ys = List.finRange zs.length) (fun pre => ∃ k, k ≤ zs.length ∧ pre = (List.finRange zs.length).take k) zs.length w := fun l J Jx W hW _ _ hY h0 => by
  have hck' := getC hW hck
  rcases hv with ⟨a0, c0, rfl, h1, h2⟩ | ⟨b, off, cap, rfl, hcap, hmax, hcs⟩
  · obtain rfl : zs = [] := by simpa using h2
    exact (back1_nil_in l Bk J W hck' h0).mono fun e W' ⟨he, hj⟩ => ⟨he, .inl ⟨_, rfl, hj⟩⟩
  · refine back1_in l Bk p b off cap zs hlen ?_ hk J Jx hY W hck' (fun j x hj => getC hW (hcs j _ (by simp [hj]))) h0
    by_cases h : zs.length = 0
    · exact .inl h
    · exact .inr (hvp h _ _ _ _ rfl)
end Go.Proofs.YtolblnjohaooaaaGreatDoor
namespace Go.Proofs.YtolblnjohaooaaaGreatDoor
open Go.RowKit
set_option linter.unusedVariables false

theorem run_app_sl {P : Program} (w : World) (base : Nat) (t ty e : TypeId) (i : TypeInfo) (z : Value) (size bytes : Nat) (ht : P.underlying t = some (.slice e)) (hi : P.info? e = some i) (hz : i.zero = some z)
    (hsize : i.size = size) (hby : i.bytes = bytes) (hzs : z.cells.size = size) (hsz : 0 < size) (v : Value) (n : Nat) (xs : List Value) (hown : w.ownsRow base e size v n xs)
    (x : Value) (m : Nat) (news : List Value) (hx : Sl w x m news) (hl : news.length = m * size) (h1 : ∀ u ∈ news, u.oneCell' = true)
    (h63 : n + m ≤ maxLen) (hbytes : (n + m) * bytes ≤ 140737488355328) (hbase : base ≤ w.heap.size) :
    ∃ v' w', (Builtin.append_ #[t, t] ty #[v, x]).run P w = .ok v' w' ∧ w'.ownsRow base e size v' (n + m) (xs ++ news) ∧ w.grownBy w' v.ownBlock := by
  have some_case : ∀ (a : Addr) (c : Nat), x = .slice (some a) m c → (∀ j u, news[j]? = some u → w.cell? (a.add j) = some u) →
      ∃ v' w', (Builtin.append_ #[t, t] ty #[v, x]).run P w = .ok v' w' ∧ w'.ownsRow base e size v' (n + m) (xs ++ news) ∧ w.grownBy w' v.ownBlock := by
    rintro a c rfl hc
    obtain ⟨v', w', h2, h3, h4, _⟩ := run_append_own_at (P := P) w base t ty e i z size bytes ht hi hz hsize hby hzs hsz v n xs hown a m c news hl hc h1 h63 hbytes hbase
    exact ⟨v', w', h2, h3, h4⟩
  rcases hx with ⟨a, c, rfl, rfl, rfl⟩ | ⟨b, off, cap, rfl, hcap, hmax, hc⟩
  · cases a with
    | some a => exact some_case a c rfl (fun j u hu => by simp at hu)
    | none =>
      refine ⟨v, w, ?_, by simpa using hown, World.grownBy.refl w _⟩
      rcases hown.2 with ⟨rfl, rfl⟩ | ⟨g, cap, cur, rfl, _, _, hnc, _⟩
      · simp [Builtin.append_, run_underlying ht, sizeOf, typeInfo, hi, Builtin.lenOf, Builtin.firstCells]
      · simp [Builtin.append_, run_underlying ht, sizeOf, typeInfo, hi, Builtin.lenOf, Builtin.firstCells, hnc, storeCells]
  · refine some_case ⟨b, off, none⟩ cap rfl (fun j u hu => ?_)
    have := hc j u hu
    by_cases h0 : j = 0
    · subst h0; simpa [Addr.add] using this
    · simpa [Addr.add, h0] using this

theorem wp_app_sl {P : Program} {w : World} {o : Oper} {a : Act} {K : Act → World → Prop} {Q : Exit → Act → World → Prop} (s x : Operand) (t : TypeId)
    (ho : o.op = .call { callee := .builtin .append, args := #[s, x], argTypes := #[t, t] }) (base : Nat) (e : TypeId) (i : TypeInfo) (z : Value) (size bytes : Nat) (ht : P.underlying t = some (.slice e)) (hi : P.info? e = some i)
    (hz : i.zero = some z) (hsize : i.size = size) (hby : i.bytes = bytes) (hzs : z.cells.size = size) (hsz : 0 < size) (v : Value) (n : Nat) (xs : List Value) (hs : a.eval s = v) (hown : w.ownsRow base e size v n xs)
    (u : Value) (m : Nat) (news : List Value) (hu : a.eval x = u) (hx : Sl w u m news) (hl : news.length = m * size) (h1 : ∀ u ∈ news, u.oneCell' = true)
    (h63 : n + m ≤ maxLen) (hbytes : (n + m) * bytes ≤ 140737488355328) (hbase : base ≤ w.heap.size)
    (h : ∀ v' w', w'.ownsRow base e size v' (n + m) (xs ++ news) → w.grownBy w' v.ownBlock → Below base w w' → K (a.put o.dst v') w') : o.wp P a w K Q := by
  obtain ⟨v', w', hrun, h2, h3⟩ := run_app_sl (P := P) w base t o.type e i z size bytes ht hi hz hsize hby hzs hsz v n xs hown u m news hx hl h1 h63 hbytes hbase
  unfold Oper.wp execOp
  simp only [ho, resolve, invoke, builtin, Sem.run_bind, Sem.run_pure, Result.andThen_ok, List.map_toArray, List.map_cons, List.map_nil, hs, hu, hrun]
  exact h v' w' h2 h3 (grown_below h3 hown (Nat.le_refl _) hbase)

/-- in a plain region -/
theorem app_sl {P : Program} {w : World} {ops : Array Oper} {rest : List Oper} {o : Oper} {a : Act} {Q : Exit → Act → World → Prop} (hgd : o.guard = none) (s x : Operand) (t : TypeId)
    (ho : o.op = .call { callee := .builtin .append, args := #[s, x], argTypes := #[t, t] }) (base : Nat) (e : TypeId) (i : TypeInfo) (z : Value) (size bytes : Nat) (ht : P.underlying t = some (.slice e)) (hi : P.info? e = some i)
    (hz : i.zero = some z) (hsize : i.size = size) (hby : i.bytes = bytes) (hzs : z.cells.size = size) (hsz : 0 < size) (v : Value) (n : Nat) (xs : List Value) (hs : a.eval s = v) (hown : w.ownsRow base e size v n xs)
    (u : Value) (m : Nat) (news : List Value) (hu : a.eval x = u) (hx : Sl w u m news) (hl : news.length = m * size) (h1 : ∀ u ∈ news, u.oneCell' = true)
    (h63 : n + m ≤ maxLen) (hbytes : (n + m) * bytes ≤ 140737488355328) (hbase : base ≤ w.heap.size)
    (h : ∀ v' w', w'.ownsRow base e size v' (n + m) (xs ++ news) → w.grownBy w' v.ownBlock → Below base w w' → wpList P ops Q rest (a.put o.dst v') w') : wpList P ops Q (o :: rest) a w :=
  wpList_plain hgd fun _ hK => wp_app_sl s x t ho base e i z size bytes ht hi hz hsize hby hzs hsz v n xs hs hown u m news hu hx hl h1 h63 hbytes hbase fun v' w' h2 h3 h4 => hK _ _ (h v' w' h2 h3 h4)
/-- at a step of a region that draws -/
theorem step_app_sl {P : Program} {w : World} {ops : Array Oper} {o : Oper} {a : Act} {K : Act → World → Prop} {Q : Exit → Act → World → Prop} {E : Prop} (hgd : o.guard = none) (s x : Operand) (t : TypeId)
    (ho : o.op = .call { callee := .builtin .append, args := #[s, x], argTypes := #[t, t] }) (base : Nat) (e : TypeId) (i : TypeInfo) (z : Value) (size bytes : Nat) (ht : P.underlying t = some (.slice e)) (hi : P.info? e = some i)
    (hz : i.zero = some z) (hsize : i.size = size) (hby : i.bytes = bytes) (hzs : z.cells.size = size) (hsz : 0 < size) (v : Value) (n : Nat) (xs : List Value) (hs : a.eval s = v) (hown : w.ownsRow base e size v n xs)
    (u : Value) (m : Nat) (news : List Value) (hu : a.eval x = u) (hx : Sl w u m news) (hl : news.length = m * size) (h1 : ∀ u ∈ news, u.oneCell' = true)
    (h63 : n + m ≤ maxLen) (hbytes : (n + m) * bytes ≤ 140737488355328) (hbase : base ≤ w.heap.size)
    (h : ∀ v' w', w'.ownsRow base e size v' (n + m) (xs ++ news) → w.grownBy w' v.ownBlock → Below base w w' → K (a.put o.dst v') w') :
    if Region.wanted o (yielded ops a.tmps) = true then Oper.wp P o a w K Q else E := by
  rw [if_pos (by simp [Region.wanted, hgd])]
  exact wp_app_sl s x t ho base e i z size bytes ht hi hz hsize hby hzs hsz v n xs hs hown u m news hu hx hl h1 h63 hbytes hbase h
end Go.Proofs.YtolblnjohaooaaaGreatDoor
namespace Go.Proofs.YtolblnjohaooaaaGreatDoor
open Go.RowKit
set_option linter.unusedVariables false

/-! ### operations that only compute -/
def pureVal (P : Program) {α : Type} : Sem α → Option α
  | .pure a => some a
  | .program k => pureVal P (k P)
  | _ => none
theorem pureVal_run {P : Program} {α : Type} : ∀ {s : Sem α} {a : α}, pureVal P s = some a → ∀ w, s.run P w = .ok a w
  | .pure a, b, h, w => by simp only [pureVal, Option.some.injEq] at h; subst h; rfl
  | .program k, b, h, w => by simp only [pureVal] at h; exact pureVal_run (s := k P) h w
def pureStep (P : Program) (ops : Array Oper) (a : Act) (o : Oper) : Option Act :=
  match Region.wanted o (yielded ops a.tmps) with
  | true => match pureVal P (execOp a.eval o) with
    | some (.value v) => some (a.put o.dst v)
    | _ => none
  | false => some (a.put o.dst undef)
theorem pureStep_yields {P : Program} {ops : Array Oper} {a a' : Act} {o : Oper} (h : pureStep P ops a o = some a') : ∃ v, a' = a.put o.dst v ∧ ∀ S : World → Prop, YieldsIf P ops S o v a := by
  unfold pureStep at h
  split at h
  · rename_i hw
    split at h
    · rename_i v hv
      simp only [Option.some.injEq] at h
      exact ⟨v, h.symm, fun S => .inl ⟨hw, fun w _ => pureVal_run hv w⟩⟩
    · cases h
  · rename_i hw
    simp only [Option.some.injEq] at h
    exact ⟨undef, h.symm, fun S => .inr ⟨hw, rfl⟩⟩
def pureGo (P : Program) (ops : Array Oper) : List Oper → Act → Option Act
  | [], a => some a
  | o :: r, a => match pureStep P ops a o with
    | some a' => pureGo P ops r a'
    | none => none

section
variable {P : Program} {ops : Array Oper} {Q : Exit → Act → World → Prop} {a a' : Act} {w : World} {K : Act → World → Prop}

theorem wpList_of_yields {o : Oper} {rest : List Oper} {v : Value} (hy : YieldsIf P ops (fun _ => True) o v a) (k : wpList P ops Q rest (a.put o.dst v) w) : wpList P ops Q (o :: rest) a w := by
  unfold wpList
  rcases hy with ⟨hw, hv⟩ | ⟨hw, rfl⟩
  · simp only [hw, if_true]; exact .inl (by simp only [Oper.wp, hv w trivial, Oper.upon]; exact k)
  · simp only [hw, Bool.false_eq_true, if_false]; exact k
theorem pureGo_sound : ∀ (l : List Oper) {rest : List Oper} {a a' : Act}, pureGo P ops l a = some a' → wpList P ops Q rest a' w → wpList P ops Q (l ++ rest) a w
  | [], _, _, _, h, k => by simp only [pureGo, Option.some.injEq] at h; subst h; exact k
  | o :: r, rest, a, a', h, k => by
    simp only [pureGo] at h
    split at h
    · rename_i a1 h1
      obtain ⟨v, rfl, hy⟩ := pureStep_yields h1
      exact wpList_of_yields (hy _) (pureGo_sound r h k)
    · cases h
/-- n operations that only compute -/
theorem g_pure {l : List Oper} (n : Nat) (a' : Act) (h : pureGo P ops (l.take n) a = some a') (k : wpList P ops Q (l.drop n) a' w) : wpList P ops Q l a w := by
  have := pureGo_sound (P := P) (ops := ops) (Q := Q) (w := w) (l.take n) h k
  rwa [List.take_append_drop] at this
/-- one operation, whatever it does -/
theorem g_op {o : Oper} {rest : List Oper} (hw : Region.wanted o (yielded ops a.tmps) = true) (h : o.wp P a w (wpList P ops Q rest) Q) : wpList P ops Q (o :: rest) a w := by
  unfold wpList; simp only [hw, if_true]; exact .inl h
theorem g_fr {c : Code} (a' : Act) (h : a = a') (k : c.wp P Q a' w) : c.wp P Q a w := h ▸ k
theorem g_lfr {l : List Oper} (a' : Act) (h : a = a') (k : wpList P ops Q l a' w) : wpList P ops Q l a w := h ▸ k
theorem g_nfr (a' : Act) (h : a = a') (k : Q .normal a' w) : Q .normal a w := h ▸ k

/-! ### one operation -/
theorem op_val {o : Oper} {v : Value} {w' : World} (hv : (execOp a.eval o).run P w = .ok (.value v) w') (k : K (a.put o.dst v) w') : o.wp P a w K Q := by
  simp only [Oper.wp, hv, Oper.upon]; exact k
theorem op_pure {o : Oper} (v : Value) (hv : pureVal P (execOp a.eval o) = some (.value v)) (k : K (a.put o.dst v) w) : o.wp P a w K Q := op_val (pureVal_run hv w) k
def aggB (P : Program) (t : TypeId) : Option Bool := (P.underlying t).map fun d => match d with | .struct _ | .array _ _ => true | _ => false
theorem run_isAgg {t : TypeId} {b : Bool} (h : aggB P t = some b) (w : World) : (isAgg t).run P w = .ok b w := by
  unfold aggB at h
  cases hu : P.underlying t with
  | none => rw [hu] at h; cases h
  | some d =>
    rw [hu] at h
    unfold isAgg
    rw [Sem.run_bind, run_underlying hu w]
    cases d <;> simp_all
theorem run_load1 {t : TypeId} {p : Addr} {v : Value} (hag : aggB P t = some false) (hc : w.cell? p = some v) : (Instr.loadAt t (.pointer (some p))).run P w = .ok v w := by
  simp [Instr.loadAt, Instr.sureAddr, loadVar, Sem.run_bind, run_isAgg hag w, load, Sem.run, hc]
theorem op_load {o : Oper} {t : TypeId} {x : Operand} (p : Addr) (v : Value) (ho : o.op = .load t x) (hx : a.eval x = .pointer (some p)) (hag : aggB P t = some false) (hc : w.cell? p = some v)
    (k : K (a.put o.dst v) w) : o.wp P a w K Q :=
  op_val (by simp only [execOp, ho, hx, Sem.run_bind, run_load1 hag hc]; rfl) k
/-- part of a block, as a struct or an array -/
theorem Blk.part {b : Nat} {cs : List Value} {t : TypeId} (h : Blk w b cs t) (off n : Nat) (hn : off + n ≤ cs.length) : w.rangeAt b off ((cs.drop off).take n) := fun j v hj => h.cell (by
  have hjn : j < n := by have := (List.getElem?_eq_some_iff.1 hj).1; simp at this; omega
  rw [List.getElem?_take_of_lt hjn, List.getElem?_drop] at hj; exact hj)
theorem Blk.whole {w : World} {b : Nat} {cs : List Value} {t : TypeId} (h : Blk w b cs t) : w.rangeAt b 0 cs := fun j v hj => by rw [Nat.zero_add]; exact h.cell hj
theorem op_loadv {o : Oper} {t : TypeId} {x : Operand} {b off : Nat} (cs : List Value) (d : TypeDesc) (ho : o.op = .load t x) (hx : a.eval x = .pointer (some ⟨b, off, none⟩)) (hu : P.underlying t = some d) (hd : d.isRow = true)
    (hi : (P.info? t).map (·.size) = some cs.length) (hc : w.rangeAt b off cs) (k : K (a.put o.dst (.agg cs.toArray)) w) : o.wp P a w K Q := wp_load_mid t x ho b off hx cs d hc hu hd hi k

/-! ### what became of the memory -/
/-- a new block -/
structure New (w : World) (b : Nat) (cs : List Value) (t : TypeId) (W : World) : Prop where
  at_ : b = w.heap.size
  below : Below w.heap.size w W
  blk : Blk W b cs t
  size : W.heap.size = w.heap.size + 1
theorem New.mk' (w : World) (cs : List Value) (t : TypeId) : New w w.heap.size cs t (w.alloc (.cells cs.toArray t)) := ⟨rfl, Bl.box _ _, Blk.new _ _ _, by simp⟩
theorem New.ne {b b' : Nat} {cs cs' : List Value} {t t' : TypeId} {w W : World} (h : New w b cs t W) (k : Blk w b' cs' t') : b' ≠ b := by have := k.lt; have := h.at_; omega
theorem New.ge {b : Nat} {cs : List Value} {t : TypeId} {w W A : World} (h : New w b cs t W) (k : Below A.heap.size A w) : A.heap.size ≤ b := by have := k.size; have := h.at_; omega
theorem New.lt {b : Nat} {cs : List Value} {t : TypeId} {W : World} (h : New w b cs t W) : b < W.heap.size := h.blk.lt
/-- one block was written, nothing else was touched -/
structure Upd (w : World) (b : Nat) (W : World) : Prop where
  os : W.os = w.os
  tape : W.tape = w.tape
  output : W.output = w.output
  size : W.heap.size = w.heap.size
  block : ∀ k, k ≠ b → W.heap[k]? = w.heap[k]?
theorem Upd.setCell (w : World) (b i : Nat) (v : Value) : Upd w b (w.setCell ⟨b, i, none⟩ v) := ⟨rfl, rfl, rfl, by simp [World.setCell], fun k hk => Below.heap_setCell w _ v k hk⟩
theorem Upd.trans {w1 w2 : World} {b : Nat} (h : Upd w b w1) (k : Upd w1 b w2) : Upd w b w2 :=
  ⟨k.os.trans h.os, k.tape.trans h.tape, k.output.trans h.output, k.size.trans h.size, fun i hi => (k.block i hi).trans (h.block i hi)⟩
theorem Upd.below {A W : World} {b B : Nat} (h : Upd w b W) (hB : Below B A w) (hb : B ≤ b) : Below B A W :=
  hB.trans ⟨h.os, h.tape, h.output, Nat.le_of_eq h.size.symm, fun k hk => h.block k (by omega)⟩
theorem Upd.blk {W : World} {b b' : Nat} {cs : List Value} {t : TypeId} (h : Upd w b W) (k : Blk w b' cs t) (hne : b' ≠ b) : Blk W b' cs t := (h.block b' hne).trans k
theorem Upd.own {W : World} {b base : Nat} {e : TypeId} {size : Nat} {v : Value} {n : Nat} {xs : List Value} (h : Upd w b W) (k : w.ownsRow base e size v n xs) (hb : b < base) : W.ownsRow base e size v n xs := by
  obtain ⟨h1, h2⟩ := k
  refine ⟨h1, ?_⟩
  rcases h2 with h2 | ⟨g, cap, cur, hv, hg, hh, r⟩
  · exact Or.inl h2
  · exact Or.inr ⟨g, cap, cur, hv, hg, by rw [h.block g (by omega)]; exact hh, r⟩

theorem op_store {o : Oper} {t : TypeId} {x y : Operand} {b off : Nat} {cs : List Value} {tb : TypeId} {v : Value} (ho : o.op = .store t x y) (hx : a.eval x = .pointer (some ⟨b, off, none⟩)) (hy : a.eval y = v)
    (hi : (P.info? t).map (·.size) = some 1) (h1 : v.oneCell' = true) (hk : Blk w b cs tb) (hoff : off < cs.length)
    (k : ∀ W, Upd w b W → Blk W b (cs.set off v) tb → K (a.put o.dst undef) W) : o.wp P a w K Q := by
  have hc := hk.cell (List.getElem?_eq_getElem hoff)
  have hf := hk.frozen off
  have hrun : (Instr.storeAt t (.pointer (some ⟨b, off, none⟩)) v).run P w = .ok () (w.setCell ⟨b, off, none⟩ v) := by
    cases hq : P.info? t with
    | none => simp [hq] at hi
    | some i =>
      have hs : i.size = 1 := by simpa [hq] using hi
      cases v <;> simp_all [Instr.storeAt, Instr.sureAddr, storeVar, Sem.run_bind, sizeOf, typeInfo, Value.cells, storeCells, store, Sem.run, Value.oneCell', Addr.add]
  have h2 : (execOp a.eval o).run P w = .ok .skip (w.setCell ⟨b, off, none⟩ v) := by
    simp only [execOp, ho, hx, hy, Sem.run_bind, hrun]; rfl
  simp only [Oper.wp, h2, Oper.upon]
  exact k _ (Upd.setCell _ _ _ _) (hk.set off v)
theorem Blk.setCells {b : Nat} {cs : List Value} {t : TypeId} : ∀ (vs : List Value) (o : Nat) {w : World} {cs : List Value}, Blk w b cs t → o + vs.length ≤ cs.length → Blk (w.setCells b o vs) b (cs.take o ++ vs ++ cs.drop (o + vs.length)) t ∧ Upd w b (w.setCells b o vs)
  | [], o, w, cs, h, hl => by
    refine ⟨?_, rfl, rfl, rfl, rfl, fun _ _ => rfl⟩
    simp only [World.setCells]
    simpa using h
  | v :: r, o, w, cs, h, hl => by
    rw [World.setCells]
    have hset := h.set o v
    obtain ⟨h1, h2⟩ := Blk.setCells (cs := cs) r (o + 1) hset (by simp at hl ⊢; omega)
    refine ⟨?_, (Upd.setCell _ _ _ _).trans h2⟩
    have e : (cs.set o v).take (o + 1) ++ r ++ (cs.set o v).drop (o + 1 + r.length) = cs.take o ++ (v :: r) ++ cs.drop (o + (v :: r).length) := by
      have ho : o < cs.length := by simp at hl; omega
      have h1 : (cs.take o).length = o := by simp; omega
      have h2 : cs.set o v = (cs.take o ++ [v]) ++ cs.drop (o + 1) := by rw [List.set_eq_take_append_cons_drop, if_pos ho]; simp
      have h3 : (cs.take o ++ [v]).length = o + 1 := by simp; omega
      rw [h2, List.take_left' h3, ← List.drop_drop, List.drop_left' h3, List.drop_drop]
      simp [Nat.add_comm, Nat.add_left_comm]
    rwa [e] at h1
theorem op_storev {o : Oper} {t : TypeId} {x y : Operand} {b off : Nat} {cs : List Value} {tb : TypeId} (vs : List Value) (ho : o.op = .store t x y) (hx : a.eval x = .pointer (some ⟨b, off, none⟩)) (hy : a.eval y = .agg vs.toArray)
    (hi : (P.info? t).map (·.size) = some vs.length) (h1 : ∀ v ∈ vs, v.oneCell' = true) (hk : Blk w b cs tb) (hoff : off + vs.length ≤ cs.length)
    (k : ∀ W, Upd w b W → Blk W b (cs.take off ++ vs ++ cs.drop (off + vs.length)) tb → K (a.put o.dst undef) W) : o.wp P a w K Q :=
  wp_store_mid t x y ho b off vs.toArray hx hy (fun j hj => ⟨by rw [hk.cell (List.getElem?_eq_getElem (by simp at hj; omega))]; rfl, hk.frozen _⟩) (by simpa using hi) (all_oneCell_toArray h1)
    (k _ (Blk.setCells (cs := cs) vs off hk hoff).2 (Blk.setCells (cs := cs) vs off hk hoff).1)
def zeroOf (P : Program) (t : TypeId) : Option (List Value) := ((P.info? t).bind (·.zero)).map fun v => v.cells.toList
theorem op_alloc {o : Oper} {t : TypeId} (cs : List Value) (ho : o.op = .alloc t) (hz : zeroOf P t = some cs) (k : ∀ b W, New w b cs t W → K (a.put o.dst (.pointer (some ⟨b, 0, none⟩))) W) : o.wp P a w K Q := by
  unfold zeroOf at hz
  cases hi : P.info? t with
  | none => simp [hi] at hz
  | some i =>
    cases hq : i.zero with
    | none => simp [hi, hq] at hz
    | some v =>
      simp only [hi, hq, Option.bind_some, Option.map_some, Option.some.injEq] at hz
      have hv : v.cells = cs.toArray := by rw [← hz]
      exact op_val (w' := w.alloc (.cells cs.toArray t)) (by simp [execOp, ho, Instr.alloc, Sem.run_bind, zeroValue, typeInfo, program, hi, hq, newVar, newRow, newObj, Sem.run, hv]) (k _ _ (New.mk' w cs t))
theorem op_box {o : Oper} {t : TypeId} {x : Operand} (cs : List Value) (ho : o.op = .box t x) (hx : (a.eval x).cells = cs.toArray) (k : ∀ b W, New w b cs t W → K (a.put o.dst (.pointer (some ⟨b, 0, none⟩))) W) : o.wp P a w K Q :=
  op_val (w' := w.alloc (.cells cs.toArray t)) (by simp [execOp, ho, Instr.box, newVar, newRow, newObj, Sem.run, hx]) (k _ _ (New.mk' w cs t))
/-- the cells of 'buildSlice', by the kernel -/
def built (P : Program) (t : TypeId) (len : Nat) (parts : List (Nat × Value)) : Option (TypeId × List Value) :=
  match P.underlying t with
  | some (.slice e) => match P.info? e with
    | some i => match i.zero with
      | some z => if len * i.size > 2 ^ 24 then none else if len * i.size = 0 then none else (Instr.fill (fun j => some (j * i.size, i.size)) ((Array.range (len * i.size)).map (z.cells[· % z.cells.size]!)) parts).map fun c => (e, c.toList)
      | none => none
    | none => none
  | _ => none
theorem op_buildSlice {o : Oper} {t : TypeId} {n : Nat} {parts : Array (Nat × Operand)} (e : TypeId) (cs : List Value) (ho : o.op = .buildSlice t n parts) (hb : built P t n (parts.toList.map fun p => (p.1, a.eval p.2)) = some (e, cs))
    (k : ∀ b W, New w b cs e W → K (a.put o.dst (.slice (some ⟨b, 0, none⟩) n n)) W) : o.wp P a w K Q := by
  unfold built at hb
  split at hb
  · rename_i e' hu
    split at hb
    · rename_i i hi
      split at hb
      · rename_i z hz
        split at hb
        · cases hb
        · split at hb
          · cases hb
          · rename_i h1 h2
            cases hf : Instr.fill (fun j => some (j * i.size, i.size)) ((Array.range (n * i.size)).map (z.cells[· % z.cells.size]!)) (parts.toList.map fun p => (p.1, a.eval p.2)) with
            | none => rw [hf] at hb; cases hb
            | some c =>
              rw [hf] at hb
              simp only [Option.map_some, Option.some.injEq, Prod.mk.injEq] at hb
              obtain ⟨rfl, hc⟩ := hb
              have hc' : c = cs.toArray := by rw [← hc]
              subst hc'
              exact op_val (w' := w.alloc (.cells cs.toArray e')) (by
                simp [execOp, ho, Instr.buildSlice, Sem.run_bind, run_underlying hu, sizeOf, typeInfo, hi, zeroValue, hz, h1, h2]
                have hf' : Instr.fill (fun i_1 => some (i_1 * i.size, i.size)) (Array.map (fun x => z.cells[x % z.cells.size]!) (Array.range (n * i.size))) (List.map (fun x => (x.fst, a.eval x.snd)) parts.toList) = some cs.toArray := hf
                rw [hf']
                simp [newRow, newObj, Sem.run]) (k _ _ (New.mk' w cs e'))
      · cases hb
    · cases hb
  · cases hb
theorem op_buildSlice0 {o : Oper} {t e : TypeId} (ho : o.op = .buildSlice t 0 #[]) (hu : P.underlying t = some (.slice e)) (hi : (P.info? e).isSome = true)
    (k : ∀ b W, New w b [] e W → K (a.put o.dst (.slice (some ⟨b, 0, none⟩) 0 0)) W) : o.wp P a w K Q := by
  obtain ⟨i, hi⟩ := Option.isSome_iff_exists.1 hi
  exact op_val (w' := w.alloc (.cells #[] e)) (by simp [execOp, ho, Instr.buildSlice, run_underlying hu, sizeOf, typeInfo, hi, Instr.fill, newRow, newObj, Sem.run, Array.range_zero']) (k _ _ (New.mk' w [] e))
theorem op_call {o : Oper} {c : Operand} {ops : Array Operand} {ts : Array TypeId} {lb : Array Value} (f : FuncId) (args : Array Value) (ho : o.op = .call { callee := .value c, args := ops, argTypes := ts }) (hc : a.eval c = .func (.func f) #[] lb)
    (hf : ∀ xs w, (callFunc f xs).run P w = .ok (.enter f xs) w) (has : ops.map a.eval ++ lb = args) (h : Calls P f args w fun e w' => ∃ v, e = .returned v ∧ K (a.put o.dst v) w') : o.wp P a w K Q := by
  have h2 : (execOp a.eval o).run P w = .ok (.enter f args) w := by
    simp only [execOp, ho, resolve, hc, Deferred.ofValue, Sem.run_bind, Sem.run_pure, Result.andThen_ok, invoke]
    rw [← has, ← hf]
    simp
  simp only [Oper.wp, h2, Oper.upon]
  exact h.mono fun e w' ⟨v, he, hk⟩ => by subst he; exact hk
end

section
variable {P : Program} {Q : Exit → Act → World → Prop} {a : Act} {w : World} {K : Act → World → Prop}
theorem op_wrap {o : Oper} (k : IntKind) (n m : Int) (hv : pureVal P (execOp a.eval o) = some (.value (.int k (k.wrap n)))) (hm : k.wrap n = m) (h : K (a.put o.dst (.int k m)) w) : o.wp P a w K Q :=
  op_pure (.int k m) (by rw [hv, hm]) h
theorem run_eq {o : Oper} (v v' : Value) (hv : pureVal P (execOp a.eval o) = some (.value v')) (e : v' = v) (V : World) : (execOp a.eval o).run P V = .ok (.value v) V := by rw [← e]; exact pureVal_run hv V
theorem run_wrap {o : Oper} (k : IntKind) (n m : Int) (hv : pureVal P (execOp a.eval o) = some (.value (.int k (k.wrap n)))) (hm : k.wrap n = m) (V : World) : (execOp a.eval o).run P V = .ok (.value (.int k m)) V := run_eq _ _ hv (by rw [hm]) V
theorem op_eq {o : Oper} (v v' : Value) (hv : pureVal P (execOp a.eval o) = some (.value v')) (e : v' = v) (h : K (a.put o.dst v) w) : o.wp P a w K Q := op_pure v (by rw [hv, e]) h
theorem run_index {o : Oper} {t e : TypeId} {x y : Operand} {b off n k c size : Nat} {i : Int} {ki : IntKind} (ho : o.op = .indexAddr t x y) (hx : a.eval x = .slice (some ⟨b, off, none⟩) n c) (hy : a.eval y = .int ki i) (hi : i = (k : Int)) (hk : k < n)
    (ht : P.underlying t = some (.slice e)) (hs : (P.info? e).map (·.size) = some size) (w : World) : (execOp a.eval o).run P w = .ok (.value (.pointer (some ⟨b, off + k * size, none⟩))) w := by
  cases hq : P.info? e with
  | none => simp [hq] at hs
  | some j =>
    have hj : j.size = size := by simpa [hq] using hs
    subst hi
    have h1 : (0 : Int) ≤ (k : Int) := by omega
    have h2 : (k : Int) < (n : Int) := by omega
    simp [execOp, ho, hx, hy, Instr.indexAt, asIntOf, run_underlying ht, sizeOf, typeInfo, hq, hj, hk, Addr.add_mid]
theorem op_index {o : Oper} {t e : TypeId} {x y : Operand} {b off n k c size : Nat} {i : Int} {ki : IntKind} (ho : o.op = .indexAddr t x y) (hx : a.eval x = .slice (some ⟨b, off, none⟩) n c) (hy : a.eval y = .int ki i) (hi : i = (k : Int)) (hk : k < n)
    (ht : P.underlying t = some (.slice e)) (hs : (P.info? e).map (·.size) = some size) (h : K (a.put o.dst (.pointer (some ⟨b, off + k * size, none⟩))) w) : o.wp P a w K Q := op_val (run_index ho hx hy hi hk ht hs w) h
theorem run_indexP {o : Oper} {t e : TypeId} {x y : Operand} {b off len k : Nat} {i : Int} {ki : IntKind} (size off' : Nat) (ho : o.op = .indexAddr t x y) (hx : a.eval x = .pointer (some ⟨b, off, none⟩)) (hy : a.eval y = .int ki i) (hi : i = (k : Int)) (hk : k < len) (hoff : off + k * size = off')
    (ht : P.underlying t = some (.array len e)) (hs : (P.info? e).map (·.size) = some size) (w : World) : (execOp a.eval o).run P w = .ok (.value (.pointer (some ⟨b, off', none⟩))) w := by
  cases hq : P.info? e with
  | none => simp [hq] at hs
  | some j =>
    have hj : j.size = size := by simpa [hq] using hs
    subst hi hoff
    have h1 : (0 : Int) ≤ (k : Int) := by omega
    have h2 : (k : Int) < (len : Int) := by omega
    simp [execOp, ho, hx, hy, Instr.indexAt, Instr.sureAddr, asIntOf, run_underlying ht, sizeOf, typeInfo, hq, hj, hk, Addr.add_mid]
/-- 'make' of n elements -/
theorem op_make {o : Oper} {t e : TypeId} {x y : Operand} (n : Nat) (z : Value) (size bytes : Nat) (cs : List Value) (ho : o.op = .makeSlice t x y) (hx : a.eval x = .int .i64 (n : Int)) (hy : a.eval y = .int .i64 (n : Int)) (ht : P.underlying t = some (.slice e))
    (hi : (P.info? e).map (fun i => (i.zero, i.size, i.bytes)) = some (some z, size, bytes)) (hzs : z.cells.size = size) (hb : bytes * n ≤ 281474976710656) (hn : n ≤ 9223372036854775807) (hcs : zeros z.cells.toList n = cs)
    (h : ∀ b W, New w b cs e W → K (a.put o.dst (.slice (some ⟨b, 0, none⟩) n n)) W) : o.wp P a w K Q := by
  cases hq : P.info? e with
  | none => simp [hq] at hi
  | some i =>
    simp only [hq, Option.map_some, Option.some.injEq, Prod.mk.injEq] at hi
    have hr := make_zeros (P := P) (t := t) (e := e) z.cells.toList ht hq hi.1 (by simp) (by rw [hi.2.1, ← hzs]; simp) hi.2.2 n hb hn w
    subst hcs
    refine op_val (w' := w.alloc (.cells (zeros z.cells.toList n).toArray e)) ?_ (h _ _ (New.mk' w _ e))
    simp only [execOp, ho, hx, hy, Sem.run_bind, hr]
    rfl
/-- a cut of a slice at a lower bound -/
theorem run_sliceL {o : Oper} {t e : TypeId} {x y : Operand} {b off n k c : Nat} {i : Int} {ki : IntKind} (size : Nat) (ho : o.op = .slice t x (some y) none none) (hx : a.eval x = .slice (some ⟨b, off, none⟩) n c) (hy : a.eval y = .int ki i) (hi : i = (k : Int)) (hk : k ≤ n) (hc : k < c)
    (ht : P.underlying t = some (.slice e)) (hs : (P.info? e).map (·.size) = some size) (w : World) : (execOp a.eval o).run P w = .ok (.value (.slice (some ⟨b, off + k * size, none⟩) (n - k) (c - k))) w := by
  cases hq : P.info? e with
  | none => simp [hq] at hs
  | some j =>
    have hj : j.size = size := by simpa [hq] using hs
    subst hi
    have h1 : (0 : Int) ≤ (k : Int) := by omega
    have h2 : (k : Int) ≤ (n : Int) := by omega
    have h3 : ¬ c = k := by omega
    simp [execOp, ho, hx, hy, Instr.sliceAt, Instr.slice, Instr.sliceBounds, Instr.sliceBound, asIntOf, run_underlying ht, sizeOf, typeInfo, hq, hj, hk, Addr.add_mid, h3]
/-- a cut of a slice at an upper bound -/
theorem run_sliceH {o : Oper} {t e : TypeId} {x y : Operand} {b : Option Addr} {n k c : Nat} {i : Int} {ki : IntKind} (ho : o.op = .slice t x none (some y) none) (hx : a.eval x = .slice b n c) (hy : a.eval y = .int ki i) (hi : i = (k : Int)) (hk : k ≤ c)
    (ht : P.underlying t = some (.slice e)) (hs : (P.info? e).isSome = true) (w : World) : (execOp a.eval o).run P w = .ok (.value (.slice b k c)) w := by
  obtain ⟨j, hq⟩ := Option.isSome_iff_exists.1 hs
  subst hi
  have h1 : (0 : Int) ≤ (k : Int) := by omega
  have h2 : (k : Int) ≤ (c : Int) := by omega
  by_cases h3 : c = 0
  · obtain rfl : k = 0 := by omega
    subst h3
    simp [execOp, ho, hx, hy, Instr.sliceAt, Instr.slice, Instr.sliceBounds, Instr.sliceBound, asIntOf, run_underlying ht, sizeOf, typeInfo, hq]
  · simp [execOp, ho, hx, hy, Instr.sliceAt, Instr.slice, Instr.sliceBounds, Instr.sliceBound, asIntOf, run_underlying ht, sizeOf, typeInfo, hq, hk, h3]
    cases b <;> simp [Addr.add]
/-- 'copy' into a row of the call's own -/
theorem op_copy {o : Oper} {d x : Operand} {dT sT e : TypeId} {base g off n cap dLen dCap : Nat} {u : Value} {xs : List Value} (m : Nat) (news xs' : List Value) (ho : o.op = .call { callee := .builtin .copy, args := #[d, x], argTypes := #[dT, sT] }) (hu : P.underlying dT = some (.slice e)) (hsz : (P.info? e).map (·.size) = some 1)
    (hd : a.eval d = .slice (some ⟨g, off, none⟩) dLen dCap) (hs : a.eval x = u) (hx : Sl w u m news) (hown : w.ownsRow base e 1 (.slice (some ⟨g, 0, none⟩) n cap) n xs) (hml : news.length = m) (hm : m ≤ dLen) (hfit : off + m ≤ n) (h1 : ∀ u ∈ news, u.oneCell' = true)
    (hbase : base ≤ w.heap.size) (hxs : xs.take off ++ news ++ xs.drop (off + m) = xs')
    (h : ∀ W, W.ownsRow base e 1 (.slice (some ⟨g, 0, none⟩) n cap) n xs' → w.grownBy W (Value.slice (some ⟨g, 0, none⟩) n cap).ownBlock → Below base w W → K (a.put o.dst (.int .i64 (m : Int))) W) : o.wp P a w K Q := by
  obtain ⟨hl, hr⟩ := hown
  rcases hr with ⟨hv, _⟩ | ⟨g2, cap2, cur, hv, hge, hh, hnc, hcm, hcs, htk⟩
  · cases hv
  simp only [Value.slice.injEq, Option.some.injEq, Addr.mk.injEq] at hv
  obtain ⟨⟨rfl, _, _⟩, _, rfl⟩ := hv
  obtain ⟨sp, sc, rfl⟩ := hx.slice
  have hmin : news.length = Nat.min m dLen := by rw [hml]; exact (Nat.min_eq_left hm).symm
  have hlen : xs.length = n := by simpa using hl
  have hcur : cur.toList.length = cap := by simpa using hcs
  have key : ∀ W, W.heap[g]? = some (.cells (cur.toList.take off ++ news ++ cur.toList.drop (off + news.length)).toArray e (0, 0)) → w.grownBy W (some g) → K (a.put o.dst (.int .i64 (m : Int))) W := by
    intro W hW hg
    refine h W ⟨?_, .inr ⟨g, cap, _, rfl, hge, hW, hnc, hcm, ?_, ?_⟩⟩ hg (grown_below (v := .slice (some ⟨g, 0, none⟩) n cap) hg ⟨hl, .inr ⟨g, cap, cur, rfl, hge, hh, hnc, hcm, hcs, htk⟩⟩ (Nat.le_refl _) hbase)
    · rw [← hxs]; simp; omega
    · simp only [List.size_toArray, List.length_append, List.length_take, List.length_drop, hcur, Nat.mul_one]; omega
    · have hA : (cur.toList.take off ++ news).length = off + m := by simp only [List.length_append, List.length_take, hcur, hml]; omega
      rw [← hxs, ← htk, hml]
      simp only [Nat.mul_one]
      rw [List.take_append, List.take_of_length_le (by rw [hA]; omega), hA, List.take_take, Nat.min_eq_left (by omega : off ≤ n), List.drop_take]
  by_cases h0 : m = 0
  · subst h0
    obtain rfl : news = [] := List.eq_nil_of_length_eq_zero hml
    have hrun := run_copy_none (P := P) w dT sT o.type e (some ⟨g, off, none⟩) sp dLen dCap 0 sc hu hsz (by simp)
    have h2 : (execOp a.eval o).run P w = .ok (.value (.int .i64 0)) w := by
      simp [execOp, ho, resolve, invoke, builtin, hd, hs, hrun, Result.andThen, goInt]
    refine op_val h2 (key w ?_ (World.grownBy.refl w _))
    rw [hh]; simp
  · rcases Sl.at hx with hn | ⟨sb, so, rfl, hcell⟩
    · rw [hn] at hml; exact absurd hml.symm h0
    have hrun := run_copy_row (P := P) w dT sT o.type e g off dLen dCap ⟨sb, so, none⟩ m sc cur e news hu hsz hh hmin (fun j v hj => by rw [Addr.add_mid]; exact hcell j v hj) (by rw [hml, hcs]; omega) h1
    have h2 : (execOp a.eval o).run P w = .ok (.value (.int .i64 (m : Int))) (w.setRow g (cur.toList.take off ++ news ++ cur.toList.drop (off + news.length)).toArray) := by
      simp [execOp, ho, resolve, invoke, builtin, hd, hs, hrun, Result.andThen, goInt, hml]
    refine op_val h2 (key _ (setRow_heap w g _ _ e _ hh) ⟨rfl, rfl, rfl, by simp, fun k _ hk => setRow_other w g k _ (fun e => hk (by rw [e]))⟩)
/-- the place of an element of a slice whose array is a letter -/
def elemAddr (a : Option Addr) (j : Nat) : Addr := (a.getD ⟨0, 0, none⟩).add j
theorem run_indexA {o : Oper} {t e : TypeId} {x y : Operand} {b : Option Addr} {n k c size : Nat} {i : Int} {ki : IntKind} (ho : o.op = .indexAddr t x y) (hx : a.eval x = .slice b n c) (hy : a.eval y = .int ki i) (hi : i = (k : Int)) (hk : k < n) (hb : b.isSome = true)
    (ht : P.underlying t = some (.slice e)) (hs : (P.info? e).map (·.size) = some size) (w : World) : (execOp a.eval o).run P w = .ok (.value (.pointer (some (elemAddr b (k * size))))) w := by
  obtain ⟨b, rfl⟩ := Option.isSome_iff_exists.1 hb
  cases hq : P.info? e with
  | none => simp [hq] at hs
  | some j =>
    have hj : j.size = size := by simpa [hq] using hs
    subst hi
    have h1 : (0 : Int) ≤ (k : Int) := by omega
    have h2 : (k : Int) < (n : Int) := by omega
    simp [execOp, ho, hx, hy, Instr.indexAt, asIntOf, run_underlying ht, sizeOf, typeInfo, hq, hj, hk, elemAddr]
theorem op_indexA {o : Oper} {t e : TypeId} {x y : Operand} {b : Option Addr} {n k c size : Nat} {i : Int} {ki : IntKind} (ho : o.op = .indexAddr t x y) (hx : a.eval x = .slice b n c) (hy : a.eval y = .int ki i) (hi : i = (k : Int)) (hk : k < n) (hb : b.isSome = true)
    (ht : P.underlying t = some (.slice e)) (hs : (P.info? e).map (·.size) = some size) (h : K (a.put o.dst (.pointer (some (elemAddr b (k * size))))) w) : o.wp P a w K Q := op_val (run_indexA ho hx hy hi hk hb ht hs w) h
/-- 'append' onto a row of the call's own, of what lies in a block of its own -/
theorem op_app {o : Oper} {s x : Operand} {t e : TypeId} {base : Nat} {v : Value} {n : Nat} {xs : List Value} {u : Value} {m : Nat} {news : List Value} (z : Value) (size bytes n' : Nat) (xs' : List Value) (ho : o.op = .call { callee := .builtin .append, args := #[s, x], argTypes := #[t, t] })
    (ht : P.underlying t = some (.slice e)) (hi : (P.info? e).map (fun i => (i.zero, i.size, i.bytes)) = some (some z, size, bytes)) (hzs : z.cells.size = size) (hsz : 0 < size) (hs : a.eval s = v) (hown : w.ownsRow base e size v n xs) (hu : a.eval x = u) (hx : Sl w u m news)
    (hl : news.length = m * size) (h1 : ∀ u ∈ news, u.oneCell' = true) (h63 : n + m ≤ maxLen) (hbytes : (n + m) * bytes ≤ 140737488355328) (hbase : base ≤ w.heap.size) (hn : n + m = n') (hxs : xs ++ news = xs')
    (h : ∀ b c W, W.ownsRow base e size (.slice b n' c) n' xs' → w.grownBy W v.ownBlock → Below base w W → K (a.put o.dst (.slice b n' c)) W) : o.wp P a w K Q := by
  cases hq : P.info? e with
  | none => simp [hq] at hi
  | some i =>
    simp only [hq, Option.map_some, Option.some.injEq, Prod.mk.injEq] at hi
    refine wp_app_sl s x t ho base e i z size bytes ht hq hi.1 hi.2.1 hi.2.2 hzs hsz v n xs hs hown u m news hu hx hl h1 h63 hbytes hbase fun v' W h2 h3 h4 => ?_
    subst hn hxs
    obtain ⟨b, c, rfl⟩ := (own_sl h2).slice
    exact h b c W h2 h3 h4
end
theorem Blk.grown {w w' : World} {b : Nat} {cs : List Value} {t e : TypeId} {base size n : Nat} {v : Value} {xs : List Value} (k : Blk w b cs t) (hg : w.grownBy w' v.ownBlock) (hown : w.ownsRow base e size v n xs) (hne : e ≠ t) : Blk w' b cs t := by
  refine k.kept hg fun hb => ?_
  rcases hown.2 with ⟨rfl, _⟩ | ⟨g, cap, cur, rfl, _, hh, _⟩
  · cases hb
  · simp only [Value.ownBlock, Option.some.injEq] at hb
    subst hb
    have h1 : w.heap[b]? = some (.cells cs.toArray t (0, 0)) := k
    rw [hh] at h1
    simp only [Option.some.injEq, Obj.cells.injEq] at h1
    exact hne h1.2.1
theorem Upd.own2 {w W : World} {b base : Nat} {e t : TypeId} {size : Nat} {v : Value} {n : Nat} {xs cs : List Value} (h : Upd w b W) (k : w.ownsRow base e size v n xs) (hk : Blk w b cs t) (hne : e ≠ t) : W.ownsRow base e size v n xs := by
  obtain ⟨h1, h2⟩ := k
  refine ⟨h1, ?_⟩
  rcases h2 with h2 | ⟨g, cap, cur, hv, hg, hh, r⟩
  · exact Or.inl h2
  · refine Or.inr ⟨g, cap, cur, hv, hg, ?_, r⟩
    rw [h.block g]
    · exact hh
    · rintro rfl
      have h1 : w.heap[g]? = some (.cells cs.toArray t (0, 0)) := hk
      rw [hh] at h1
      simp only [Option.some.injEq, Obj.cells.injEq] at h1
      exact hne h1.2.1
/-- a block of the call's own as a slice of its cells -/
theorem Blk.sl {w : World} {b : Nat} {cs : List Value} {t : TypeId} (h : Blk w b cs t) (n c : Nat) (hn : n ≤ c) (hc : c ≤ maxLen) : Sl w (.slice (some ⟨b, 0, none⟩) n c) n cs :=
  .inr ⟨b, 0, c, rfl, hn, hc, fun j x hj => by rw [Nat.zero_add]; exact h.cell hj⟩
theorem res_c {P : Program} {fn : Func} {tmps : Array Value} {w : World} {k : Nat} {t : TypeId} {b off : Nat} {cs : List Value} {d : TypeDesc} (hfn : fn.results = #[.cell k t]) (e : tmps.getD k undef = .pointer (some ⟨b, off, none⟩)) (hc : w.rangeAt b off cs)
    (hu : P.underlying t = some d) (hd : d.isRow = true) (hi : (P.info? t).map (·.size) = some cs.length) : (results fn tmps).run P w = .ok (.agg cs.toArray) w := by
  have h := run_loadVar_mid w b off t cs d hc hu hd hi
  have e' : tmps[k]?.getD undef = .pointer (some ⟨b, off, none⟩) := by simpa using e
  simp [results, hfn, e', asAddr, h]
theorem res_ct {P : Program} {fn : Func} {tmps : Array Value} {w : World} {k j : Nat} {t : TypeId} {b off : Nat} {cs : List Value} {d : TypeDesc} {u : Value} (hfn : fn.results = #[.cell k t, .tmp j]) (e : tmps.getD k undef = .pointer (some ⟨b, off, none⟩)) (e2 : tmps.getD j undef = u) (hc : w.rangeAt b off cs)
    (hu : P.underlying t = some d) (hd : d.isRow = true) (hi : (P.info? t).map (·.size) = some cs.length) : (results fn tmps).run P w = .ok (.tuple #[.agg cs.toArray, u]) w := by
  have h := run_loadVar_mid w b off t cs d hc hu hd hi
  have e' : tmps[k]?.getD undef = .pointer (some ⟨b, off, none⟩) := by simpa using e
  have e2' : tmps[j]?.getD undef = u := by simpa using e2
  simp [results, hfn, e', e2', asAddr, h]
theorem res_ctt {P : Program} {fn : Func} {tmps : Array Value} {w : World} {k j m : Nat} {t : TypeId} {b off : Nat} {cs : List Value} {d : TypeDesc} {u u2 : Value} (hfn : fn.results = #[.cell k t, .tmp j, .tmp m]) (e : tmps.getD k undef = .pointer (some ⟨b, off, none⟩)) (e2 : tmps.getD j undef = u) (e3 : tmps.getD m undef = u2) (hc : w.rangeAt b off cs)
    (hu : P.underlying t = some d) (hd : d.isRow = true) (hi : (P.info? t).map (·.size) = some cs.length) : (results fn tmps).run P w = .ok (.tuple #[.agg cs.toArray, u, u2]) w := by
  have h := run_loadVar_mid w b off t cs d hc hu hd hi
  have e' : tmps[k]?.getD undef = .pointer (some ⟨b, off, none⟩) := by simpa using e
  have e2' : tmps[j]?.getD undef = u := by simpa using e2
  have e3' : tmps[m]?.getD undef = u2 := by simpa using e3
  simp [results, hfn, e', e2', e3', asAddr, h]
/-- an element of a slice -/
theorem _root_.Go.Proofs.YtolblnjohaooaaaGreatDoor.Sl.elem {w : World} {b : Option Addr} {n c : Nat} {xs : List Value} (h : Sl w (.slice b n c) n xs) {j : Nat} {x : Value} (hj : xs[j]? = some x) : b.isSome = true ∧ w.cell? (elemAddr b j) = some x := by
  rcases Sl.at h with rfl | ⟨g, off, rfl, hc⟩
  · cases hj
  · exact ⟨rfl, by simpa [elemAddr, Addr.add_mid] using hc j x hj⟩
theorem _root_.Go.Proofs.YtolblnjohaooaaaGreatDoor.Ints.elem {w : World} {b : Option Addr} {c : Nat} {l : List Int} (h : Ints w (.slice b l.length c) l) {k : Nat} (hk : k < l.length) : b.isSome = true ∧ w.cell? (elemAddr b (k * 1)) = some (.int .i64 (l.getD k 0)) := by
  refine Sl.elem h ?_
  rw [Nat.mul_one, List.getElem?_map, List.getElem?_eq_getElem hk]
  simp [List.getD, List.getElem?_eq_getElem hk]
/-- of what stood, only blocks of these element types were written -/
def Only (T : List TypeId) (w w' : World) : Prop := ∀ (k : Nat) (cs : Array Value) (t : TypeId) (fr : Nat × Nat), w.heap[k]? = some (Obj.cells cs t fr) → T.contains t = false → w'.heap[k]? = some (Obj.cells cs t fr)
theorem Only.refl (T : List TypeId) (w : World) : Only T w w := fun _ _ _ _ h _ => h
theorem Only.trans {T : List TypeId} {a b c : World} (h : Only T a b) (k : Only T b c) : Only T a c := fun i cs t fr hi ht => k i cs t fr (h i cs t fr hi ht) ht
theorem Only.of_below {T : List TypeId} {w W : World} (h : Below w.heap.size w W) : Only T w W := fun k cs t fr hk _ => by
  rw [h.block k (Array.getElem?_eq_some_iff.1 hk).1]; exact hk
theorem Only.of_upd {T : List TypeId} {w W : World} {b : Nat} {cs : List Value} {t : TypeId} (h : Upd w b W) (k : Blk w b cs t) (ht : T.contains t = true) : Only T w W := fun i cs' t' fr hi h2 => by
  rw [h.block i]
  · exact hi
  · rintro rfl
    have h1 : w.heap[i]? = some (.cells cs.toArray t (0, 0)) := k
    rw [hi] at h1
    simp only [Option.some.injEq, Obj.cells.injEq] at h1
    rw [h1.2.1, ht] at h2; cases h2
theorem Only.of_grown {T : List TypeId} {w W : World} {base size n : Nat} {e : TypeId} {v : Value} {xs : List Value} (hg : w.grownBy W v.ownBlock) (hown : w.ownsRow base e size v n xs) (ht : T.contains e = true) : Only T w W := fun i cs t fr hi h2 => by
  rw [hg.block i (Array.getElem?_eq_some_iff.1 hi).1]
  · exact hi
  · intro hb
    rcases hown.2 with ⟨rfl, _⟩ | ⟨g, cap, cur, rfl, _, hh, _⟩
    · cases hb
    · simp only [Value.ownBlock, Option.some.injEq] at hb
      subst hb
      rw [hi] at hh
      simp only [Option.some.injEq, Obj.cells.injEq] at hh
      rw [hh.2.1, ht] at h2; cases h2
theorem Blk.only {T : List TypeId} {w W : World} {b : Nat} {cs : List Value} {t : TypeId} (k : Blk w b cs t) (h : Only T w W) (ht : T.contains t = false) : Blk W b cs t := h b _ _ _ k ht
/-- a row of one element type while a row of another one grows -/
theorem own_grown {w w' : World} {base size n : Nat} {e : TypeId} {v : Value} {xs : List Value} {base2 size2 n2 : Nat} {e2 : TypeId} {v2 : Value} {xs2 : List Value} (k : w.ownsRow base e size v n xs) (hg : w.grownBy w' v2.ownBlock) (hown : w.ownsRow base2 e2 size2 v2 n2 xs2) (hne : e2 ≠ e) : w'.ownsRow base e size v n xs := by
  obtain ⟨h1, h2⟩ := k
  refine ⟨h1, ?_⟩
  rcases h2 with h2 | ⟨g, cap, cur, hv, hg2, hh, r⟩
  · exact Or.inl h2
  · refine Or.inr ⟨g, cap, cur, hv, hg2, ?_, r⟩
    rw [hg.block g (Array.getElem?_eq_some_iff.1 hh).1]
    · exact hh
    · intro hb
      rcases hown.2 with ⟨rfl, _⟩ | ⟨g2, cap2, cur2, rfl, _, hh2, _⟩
      · cases hb
      · simp only [Value.ownBlock, Option.some.injEq] at hb
        subst hb
        rw [hh] at hh2
        simp only [Option.some.injEq, Obj.cells.injEq] at hh2
        exact hne hh2.2.1.symm
theorem own_mono {w : World} {base base' size n : Nat} {e : TypeId} {v : Value} {xs : List Value} (k : w.ownsRow base' e size v n xs) (h : base ≤ base') : w.ownsRow base e size v n xs := by
  obtain ⟨h1, h2⟩ := k
  refine ⟨h1, ?_⟩
  rcases h2 with h2 | ⟨g, cap, cur, hv, hg, r⟩
  · exact Or.inl h2
  · exact Or.inr ⟨g, cap, cur, hv, Nat.le_trans h hg, r⟩
theorem own_only {T : List TypeId} {w W : World} {base size n : Nat} {e : TypeId} {v : Value} {xs : List Value} (k : w.ownsRow base e size v n xs) (h : Only T w W) (ht : T.contains e = false) : W.ownsRow base e size v n xs := by
  obtain ⟨h1, h2⟩ := k
  refine ⟨h1, ?_⟩
  rcases h2 with h2 | ⟨g, cap, cur, hv, hg, hh, r⟩
  · exact Or.inl h2
  · exact Or.inr ⟨g, cap, cur, hv, hg, h g _ _ _ hh ht, r⟩
theorem Bl.nextB {B : Nat} {a w w' : World} (h : Below B a w) (hs : B ≤ a.heap.size) (k : Below w.heap.size w w') : Below B a w' := h.trans (k.mono (Nat.le_trans hs h.size))
theorem New.geB {b B : Nat} {cs : List Value} {t : TypeId} {w W A : World} (h : New w b cs t W) (k : Below B A w) (hs : B ≤ A.heap.size) : B ≤ b := by have := k.size; have := h.at_; omega
/-! ### slices of structs -/
def Sts {α : Type} (f : α → List Value) (w : World) (v : Value) (l : List α) : Prop := Sl w v l.length (l.flatMap f)
theorem Sts.below {α : Type} {f : α → List Value} {w w' : World} {v : Value} {l : List α} (h : Sts f w v l) (hb : Below w.heap.size w w') : Sts f w' v l := Sl.below h hb
theorem flat_get {α : Type} {f : α → List Value} {m : Nat} (hm : ∀ x, (f x).length = m) : ∀ (l : List α) (k i : Nat) (d : α), k < l.length → i < m → (l.flatMap f)[k * m + i]? = (f (l.getD k d))[i]?
  | [], k, i, d, hk, _ => by simp at hk
  | x :: l, 0, i, d, _, hi => by
    rw [List.flatMap_cons, Nat.zero_mul, Nat.zero_add, List.getElem?_append_left (by rw [hm]; exact hi)]; rfl
  | x :: l, k + 1, i, d, hk, hi => by
    rw [List.flatMap_cons, List.getElem?_append_right (by rw [hm, Nat.succ_mul]; omega), hm, show (k + 1) * m + i - m = k * m + i by rw [Nat.succ_mul]; omega]
    simpa using flat_get hm l k i d (by simpa using hk) hi
theorem flat_length {α : Type} {f : α → List Value} {m : Nat} (hm : ∀ x, (f x).length = m) (l : List α) : (l.flatMap f).length = l.length * m := by
  induction l with
  | nil => simp
  | cons x l ih => rw [List.flatMap_cons, List.length_append, hm, ih, List.length_cons, Nat.succ_mul]; omega
theorem Sts.cell {α : Type} {f : α → List Value} {m : Nat} {w : World} {b : Option Addr} {c : Nat} {l : List α} (h : Sts f w (.slice b l.length c) l) (hm : ∀ x, (f x).length = m) (d : α) {k i : Nat} {v : Value} (hk : k < l.length) (hi : (f (l.getD k d))[i]? = some v) : b.isSome = true ∧ w.cell? ((elemAddr b (k * m)).add i) = some v := by
  have him : i < m := by have := (List.getElem?_eq_some_iff.1 hi).1; rwa [hm] at this
  have hc := flat_get hm l k i d hk him
  rw [hi] at hc
  rcases Sl.at h with hnil | ⟨g, og, rfl, hcell⟩
  · rw [hnil] at hc; cases hc
  · refine ⟨rfl, ?_⟩
    have := hcell _ _ hc
    simpa [elemAddr, Addr.add_mid, Nat.add_assoc] using this
theorem Sts.at {α : Type} {f : α → List Value} {m : Nat} {w : World} {b : Option Addr} {c : Nat} {l : List α} (h : Sts f w (.slice b l.length c) l) (hm : ∀ x, (f x).length = m) (hm0 : 0 < m) (hl : 0 < l.length) : ∃ g o, b = some ⟨g, o, none⟩ := by
  rcases Sl.at h with hnil | ⟨g, og, rfl, hcell⟩
  · have := flat_length hm l
    rw [hnil] at this
    have := Nat.mul_pos hl hm0
    simp at *; omega
  · exact ⟨g, og, rfl⟩
theorem run_loadSt {P : Program} {α : Type} {f : α → List Value} {m : Nat} {a : Act} {o : Oper} {w : World} {t : TypeId} {x : Operand} {b : Option Addr} {c k : Nat} {l : List α} (hm : ∀ x, (f x).length = m) (dflt : α) (d : TypeDesc) (ho : o.op = .load t x) (hx : a.eval x = .pointer (some (elemAddr b (k * m)))) (h : Sts f w (.slice b l.length c) l) (hk : k < l.length) (hm0 : 0 < m)
    (hu : P.underlying t = some d) (hd : d.isRow = true) (hi : (P.info? t).map (·.size) = some m) : (execOp a.eval o).run P w = .ok (.value (.agg (f (l.getD k dflt)).toArray)) w := by
  have hlen := hm (l.getD k dflt)
  obtain ⟨g, og, rfl⟩ := h.at hm hm0 (by omega)
  have hr := run_loadVar_mid (P := P) w g (og + k * m) t (f (l.getD k dflt)) d (fun j v hj => by
    have := (h.cell hm dflt hk hj).2
    simpa [elemAddr, Addr.add_mid] using this) hu hd (by rw [hlen]; exact hi)
  have hx' : a.eval x = .pointer (some ⟨g, og + k * m, none⟩) := by rw [hx]; simp [elemAddr, Addr.add_mid]
  simp only [execOp, ho, hx', Instr.loadAt, Instr.sureAddr, Sem.run_bind, Sem.run_pure, Result.andThen_ok, hr]
theorem ne_of_beq_false {a b : Int} (h : (a == b) = false) : a ≠ b := by simpa using h
theorem ne_of_bne {a b : Int} (h : (a != b) = true) : a ≠ b := by simpa using h
theorem eq_of_bne_false {a b : Int} (h : (a != b) = false) : a = b := by simpa using h

/-! ### a region that draws its order -/
def takeGo (P : Program) (md : Region.Mode) (ops : Array Oper) : List Nat → Array Bool → Act → Option (Array Bool × Act)
  | [], L, a => some (L, a)
  | i :: r, L, a => match ops[i]? with
    | none => none
    | some o => match Region.free md ops L i && (Region.ready md ops L).contains i with
      | true => match pureStep P ops a o with
        | some a' => takeGo P md ops r (L.setIfInBounds i true) a'
        | none => none
      | false => none
section
variable {P : Program} {ops : Array Oper} {Q : Exit → Act → World → Prop} {a a' : Act} {w : World} {S : World → Prop} {md : Region.Mode} {L L' : Array Bool} {fuel : Nat}
theorem panic_put (hQ : ∀ c a (d : Tmp) v w, Q (.panic c) (a.put (some d) v) w → Q (.panic c) a w) (d : Option Tmp) (v : Value) : ∀ c a w, Q (.panic c) (a.put d v) w → Q (.panic c) a w := fun c a w h => by
  cases d with
  | none => exact h
  | some d => exact hQ c a d v w h
theorem takeGo_sound (hs : Region.noSelect ops = true) (hQ : ∀ c a (d : Tmp) v w, Q (.panic c) (a.put (some d) v) w → Q (.panic c) a w) (hS : S w) : ∀ (is : List Nat) {fuel : Nat} {L L' : Array Bool} {a a' : Act}, takeGo P md ops is L a = some (L', a') → wpAnyH P md ops Q S fuel L' a' w → wpAnyH P md ops Q S (fuel + is.length) L a w
  | [], fuel, L, L', a, a', h, k => by simp only [takeGo, Option.some.injEq, Prod.mk.injEq] at h; obtain ⟨rfl, rfl⟩ := h; exact k
  | i :: r, fuel, L, L', a, a', h, k => by
    simp only [takeGo] at h
    split at h
    · cases h
    · rename_i o ho
      split at h
      · rename_i hfr
        simp only [Bool.and_eq_true] at hfr
        split at h
        · rename_i a1 h1
          obtain ⟨v, rfl, hy⟩ := pureStep_yields h1
          exact wpAnyH_take ho hs hfr.1 hfr.2 (panic_put hQ _ _) (hy S) hS (takeGo_sound hs hQ hS r h k)
        · cases h
      · cases h
theorem h_pure (is : List Nat) (fuel : Nat) {f0 : Nat} (hf : f0 = fuel + is.length) (L' : Array Bool) (a' : Act) (hs : Region.noSelect ops = true) (hQ : ∀ c a (d : Tmp) v w, Q (.panic c) (a.put (some d) v) w → Q (.panic c) a w) (h : takeGo P md ops is L a = some (L', a')) (hS : S w)
    (k : wpAnyH P md ops Q S fuel L' a' w) : wpAnyH P md ops Q S f0 L a w := hf ▸ takeGo_sound hs hQ hS is h k
theorem h_val {o : Oper} (i fuel : Nat) {f0 : Nat} (hf : f0 = fuel + 1) (v : Value) (ho : ops[i]? = some o) (hs : Region.noSelect ops = true) (hfr : Region.free md ops L i = true) (hr : (Region.ready md ops L).contains i = true) (hQ : ∀ c a (d : Tmp) v w, Q (.panic c) (a.put (some d) v) w → Q (.panic c) a w)
    (hw : Region.wanted o (yielded ops a.tmps) = true) (hv : ∀ V, S V → (execOp a.eval o).run P V = .ok (.value v) V) (hS : S w) (k : wpAnyH P md ops Q S fuel (L.setIfInBounds i true) (a.put o.dst v) w) : wpAnyH P md ops Q S f0 L a w :=
  hf ▸ wpAnyH_take ho hs hfr hr (panic_put hQ _ _) (.inl ⟨hw, hv⟩) hS k
theorem h_load {t : TypeId} {x : Operand} {o : Oper} (i fuel : Nat) {f0 : Nat} (hf : f0 = fuel + 1) (p : Addr) (v : Value) (ho : ops.toList[i]? = some o) (hs : Region.noSelect ops = true) (hfr : Region.free md ops L i = true) (hr : (Region.ready md ops L).contains i = true)
    (hQ : ∀ c a (d : Tmp) v w, Q (.panic c) (a.put (some d) v) w → Q (.panic c) a w) (hw : Region.wanted o (yielded ops a.tmps) = true) (hop : o.op = .load t x) (hx : a.eval x = .pointer (some p)) (hag : aggB P t = some false) (hv : ∀ V, S V → V.cell? p = some v) (hS : S w)
    (k : wpAnyH P md ops Q S fuel (L.setIfInBounds i true) (a.put o.dst v) w) : wpAnyH P md ops Q S f0 L a w :=
  h_val i fuel hf v (by rw [← ho]; simp) hs hfr hr hQ hw (fun V hV => by simp only [execOp, hop, hx, Sem.run_bind, run_load1 hag (hv V hV)]; rfl) hS k
theorem h_loadv {t : TypeId} {x : Operand} {o : Oper} {b off : Nat} (i fuel : Nat) {f0 : Nat} (hf : f0 = fuel + 1) (cs : List Value) (d : TypeDesc) (ho : ops.toList[i]? = some o) (hs : Region.noSelect ops = true) (hfr : Region.free md ops L i = true) (hr : (Region.ready md ops L).contains i = true)
    (hQ : ∀ c a (d : Tmp) v w, Q (.panic c) (a.put (some d) v) w → Q (.panic c) a w) (hw : Region.wanted o (yielded ops a.tmps) = true) (hop : o.op = .load t x) (hx : a.eval x = .pointer (some ⟨b, off, none⟩)) (hu : P.underlying t = some d) (hd : d.isRow = true)
    (hi : (P.info? t).map (·.size) = some cs.length) (hv : ∀ V, S V → V.rangeAt b off cs) (hS : S w)
    (k : wpAnyH P md ops Q S fuel (L.setIfInBounds i true) (a.put o.dst (.agg cs.toArray)) w) : wpAnyH P md ops Q S f0 L a w :=
  hf ▸ wpAnyH_take (by rw [← ho]; simp) hs hfr hr (panic_put hQ _ _) (yieldsIf_load_mid hw t x hop b off hx cs d hv hu hd hi) hS k
/-- the one operation that may come up -/
theorem h_one {o : Oper} (i fuel : Nat) {f0 : Nat} (hf : f0 = fuel + 1) (hr : Region.ready md ops L = [i]) (ho : ops.toList[i]? = some o) (hw : Region.wanted o (yielded ops a.tmps) = true)
    (h : o.wp P a w (fun a' w' => S w' ∧ wpAnyH P md ops Q S fuel (L.setIfInBounds i true) a' w') Q) : wpAnyH P md ops Q S f0 L a w := by
  subst hf
  refine wpAnyH_all hr (by simp) fun j hj => ?_
  obtain rfl : j = i := by simpa using hj
  have ho' : ops[j]? = some o := by rw [← ho]; simp
  unfold wpOp
  simp only [ho', hw, if_true]
  exact .inl h
theorem h_two {o o2 : Oper} (i j fuel : Nat) {f0 : Nat} (hf : f0 = fuel + 1) (hr : Region.ready md ops L = [i, j]) (ho : ops.toList[i]? = some o) (ho2 : ops.toList[j]? = some o2) (hw : Region.wanted o (yielded ops a.tmps) = true) (hw2 : Region.wanted o2 (yielded ops a.tmps) = true)
    (h : o.wp P a w (fun a' w' => S w' ∧ wpAnyH P md ops Q S fuel (L.setIfInBounds i true) a' w') Q) (h2 : o2.wp P a w (fun a' w' => S w' ∧ wpAnyH P md ops Q S fuel (L.setIfInBounds j true) a' w') Q) : wpAnyH P md ops Q S f0 L a w := by
  subst hf
  refine wpAnyH_all hr (by simp) fun k hk => ?_
  have ho' : ops[i]? = some o := by rw [← ho]; simp
  have ho2' : ops[j]? = some o2 := by rw [← ho2]; simp
  rcases List.mem_cons.1 hk with rfl | hk
  · unfold wpOp; simp only [ho', hw, if_true]; exact .inl h
  · obtain rfl : k = j := by simpa using hk
    unfold wpOp; simp only [ho2', hw2, if_true]; exact .inl h2
theorem h_reg {id : Nat} {l : List Oper} (S : World → Prop) (n : Nat) (hn : l.toArray.size = n) (L : Array Bool) (hL : Array.replicate n false = L) (hm : P.follows .mixedOrders = true) (hS : S w.drew) (h : S w.drew → wpAnyH P .any l.toArray Q S n L a w.drew) : (Code.region id l.toArray true).wp P Q a w :=
  wp_region_held_drew hm hS (by rw [hn, hL]; exact h)
theorem h_str {P : Program} {ops : Array Oper} {Q : Exit → Act → World → Prop} {S : World → Prop} {md : Region.Mode} (S' : World → Prop) (hi : ∀ V, S' V → S V) : ∀ {fuel : Nat} {L : Array Bool} {a : Act} {w : World}, wpAnyH P md ops Q S' fuel L a w → wpAnyH P md ops Q S fuel L a w
  | 0, _, _, _, h => h
  | fuel + 1, _, _, _, h => ⟨h.1, fun i hj => wpOp_mono (fun a' w' h' => ⟨hi w' h'.1, h_str S' hi h'.2⟩) (h.2 i hj)⟩
theorem h_done (fuel : Nat) (hr : Region.ready md ops L = []) (h : Q .normal a w) : wpAnyH P md ops Q S fuel L a w := wpAnyH_done hr h fuel
theorem h_fr (a' : Act) (h : a = a') (k : wpAnyH P md ops Q S fuel L a' w) : wpAnyH P md ops Q S fuel L a w := h ▸ k
end
/-- everything that stood is as it was, but for one block -/
structure BelowBut (w : World) (b : Nat) (W : World) : Prop where
  os : W.os = w.os
  tape : W.tape = w.tape
  output : W.output = w.output
  size : w.heap.size ≤ W.heap.size
  block : ∀ k, k < w.heap.size → k ≠ b → W.heap[k]? = w.heap[k]?
theorem _root_.Go.RowKit.Below.but {w W : World} (h : Below w.heap.size w W) (b : Nat) : BelowBut w b W := ⟨h.os, h.tape, h.output, h.size, fun k hk _ => h.block k hk⟩
theorem BelowBut.upd {w W W' : World} {b : Nat} (h : BelowBut w b W) (u : Upd W b W') : BelowBut w b W' := ⟨u.os.trans h.os, u.tape.trans h.tape, u.output.trans h.output, by rw [u.size]; exact h.size, fun k hk hne => (u.block k hne).trans (h.block k hk hne)⟩
theorem BelowBut.next {w W W' : World} {b : Nat} (h : BelowBut w b W) (u : Below W.heap.size W W') : BelowBut w b W' := ⟨u.os.trans h.os, u.tape.trans h.tape, u.output.trans h.output, Nat.le_trans h.size u.size, fun k hk hne => (u.block k (Nat.lt_of_lt_of_le hk h.size)).trans (h.block k hk hne)⟩
theorem BelowBut.blk {w W : World} {b b' : Nat} {cs : List Value} {t : TypeId} (h : BelowBut w b W) (k : Blk w b' cs t) (hne : b' ≠ b) : Blk W b' cs t := (h.block b' k.lt hne).trans k
theorem BelowBut.own2 {w W : World} {b base : Nat} {e t : TypeId} {size : Nat} {v : Value} {n : Nat} {xs cs : List Value} (h : BelowBut w b W) (k : w.ownsRow base e size v n xs) (hk : Blk w b cs t) (hne : e ≠ t) : W.ownsRow base e size v n xs := by
  obtain ⟨h1, h2⟩ := k
  refine ⟨h1, ?_⟩
  rcases h2 with h2 | ⟨g, cap, cur, hv, hg, hh, r⟩
  · exact Or.inl h2
  · refine Or.inr ⟨g, cap, cur, hv, hg, ?_, r⟩
    rw [h.block g (Array.getElem?_eq_some_iff.1 hh).1]
    · exact hh
    · rintro rfl
      rw [show w.heap[g]? = _ from hk] at hh
      simp only [Option.some.injEq, Obj.cells.injEq] at hh
      exact hne hh.2.1.symm
theorem BelowBut.below {A w W : World} {b B : Nat} (h : BelowBut w b W) (hB : Below B A w) (hb : B ≤ b) (hs : B ≤ w.heap.size) : Below B A W := hB.trans ⟨h.os, h.tape, h.output, h.size, fun k hk => h.block k (by omega) (by omega)⟩
theorem g_round {P : Program} {Q : Exit → Act → World → Prop} {a : Act} {w : World} {c : Code} {n : Nat} (h : c.wp P (Exit.then (Code.rounds P c Q n) Q) a w) : Code.rounds P c Q (n + 1) a w := h
/-- a block of the call's own as a row of its own -/
theorem own_of_blk {w : World} {b base : Nat} {cs : List Value} {t : TypeId} {size n : Nat} (k : Blk w b cs t) (hb : base ≤ b) (hl : cs.length = n * size) (hn : n ≤ maxLen) : w.ownsRow base t size (.slice (some ⟨b, 0, none⟩) n n) n cs :=
  ⟨hl, .inr ⟨b, n, cs.toArray, rfl, hb, k, Nat.le_refl _, hn, by simpa using hl, by rw [← hl]; simp⟩⟩
/-- the ways through a piece of code meet again -/
theorem wp_meet {P : Program} {Q : Exit → Act → World → Prop} {a : Act} {w : World} {c : Code} (J : Act → World → Prop) (h : c.wp P (Exit.then J Q) a w) (k : ∀ a w, J a w → Q .normal a w) : c.wp P Q a w :=
  wp_mono h fun e a w hq => by cases e <;> first | exact k a w hq | exact hq
theorem g_ret {P : Program} {fn : Func} {R : Ending → World → Prop} {a : Act} {w : World} (v : Value) (hd : a.defers = []) (hr : (results fn a.tmps).run P w = .ok v w) (h : R (.returned v) w) : bodyPost P fn R .ret a w := ⟨hd, v, hr, h⟩
theorem g_end {P : Program} {fn : Func} {R : Ending → World → Prop} {a : Act} {w : World} (v : Value) (hd : a.defers = []) (hr : (results fn a.tmps).run P w = .ok v w) (h : R (.returned v) w) : bodyPost P fn R .normal a w := ⟨hd, v, hr, h⟩
theorem New.ge0 {b : Nat} {cs : List Value} {t : TypeId} {w W A : World} {B : Nat} (h : New w b cs t W) (k : Below B A w) : A.heap.size ≤ b := by have := k.size; have := h.at_; omega
theorem own_ne {w W : World} {base size n : Nat} {e : TypeId} {v : Value} {xs cs : List Value} {b : Nat} {t : TypeId} (k : w.ownsRow base e size v n xs) (h : New w b cs t W) : ∀ j, v.ownBlock = some j → j ≠ b := fun j hj => by have := (k.lt j hj).2; have := h.at_; omega
theorem Upd.own3 {w W : World} {b base : Nat} {e : TypeId} {size : Nat} {v : Value} {n : Nat} {xs : List Value} (h : Upd w b W) (k : w.ownsRow base e size v n xs) (hs : ∀ j, v.ownBlock = some j → j ≠ b) : W.ownsRow base e size v n xs := by
  obtain ⟨h1, h2⟩ := k
  refine ⟨h1, ?_⟩
  rcases h2 with h2 | ⟨g, cap, cur, rfl, hg, hh, r⟩
  · exact Or.inl h2
  · exact Or.inr ⟨g, cap, cur, rfl, hg, by rw [h.block g (hs g rfl)]; exact hh, r⟩
theorem Blk.grown3 {w w' : World} {b : Nat} {cs : List Value} {t : TypeId} {v : Value} (k : Blk w b cs t) (hg : w.grownBy w' v.ownBlock) (hs : ∀ j, v.ownBlock = some j → j ≠ b) : Blk w' b cs t := (hg.block b k.lt fun e => hs b e.symm rfl).trans k
theorem Only.upd_new {T : List TypeId} {a w W : World} {b : Nat} (h : Only T a w) (u : Upd w b W) (hb : a.heap.size ≤ b) : Only T a W := fun k cs t fr hk ht => by
  have := (Array.getElem?_eq_some_iff.1 hk).1
  rw [u.block k (by omega)]; exact h k cs t fr hk ht
theorem Only.grown_new {T : List TypeId} {a w W : World} {size n : Nat} {e : TypeId} {v : Value} {xs : List Value} (h : Only T a w) (hg : w.grownBy W v.ownBlock) (hown : w.ownsRow a.heap.size e size v n xs) : Only T a W := fun k cs t fr hk ht => by
  have h1 := (Array.getElem?_eq_some_iff.1 hk).1
  have h2 := h k cs t fr hk ht
  rw [hg.block k (Array.getElem?_eq_some_iff.1 h2).1 (fun e => by have := (hown.lt k e.symm).1; omega)]; exact h2
/-- values put, one behind the other -/
def putD (a : Act) : List (Nat × Value) → Act
  | [] => a
  | (d, v) :: r => putD ⟨a.tmps.setIfInBounds d v, a.defers⟩ r
theorem putB_same (is : List Nat) (d b : Bool) (h : d = b) {a : Act} (he : is.map (fun i => a.tmps[i]?) = is.map (fun _ => some (Value.bool d))) : putD a (is.map fun i => (i, Value.bool b)) = a := by
  subst h
  induction is with
  | nil => rfl
  | cons i r ih =>
    simp only [List.map_cons, List.cons.injEq] at he
    have e : a.tmps.setIfInBounds i (Value.bool d) = a.tmps := by
      apply Array.ext_getElem?
      intro j
      by_cases hj : i = j
      · subst hj
        obtain ⟨hlt, hv⟩ := Array.getElem?_eq_some_iff.1 he.1
        rw [Array.getElem?_setIfInBounds_self_of_lt hlt, he.1]
      · rw [Array.getElem?_setIfInBounds_ne hj]
    show putD ⟨a.tmps.setIfInBounds i (Value.bool d), a.defers⟩ (r.map fun i => (i, Value.bool d)) = a
    rw [e]
    exact ih he.2
theorem g_b {P : Program} {ops : Array Oper} {Q : Exit → Act → World → Prop} {a : Act} {w : World} {l : List Oper} (is : List Nat) (d b : Bool) (h : d = b) (he : is.map (fun i => a.tmps[i]?) = is.map (fun _ => some (Value.bool d))) (k : wpList P ops Q l (putD a (is.map fun i => (i, Value.bool b))) w) : wpList P ops Q l a w := putB_same is d b h he ▸ k
theorem h_b {P : Program} {ops : Array Oper} {Q : Exit → Act → World → Prop} {a : Act} {w : World} {S : World → Prop} {md : Region.Mode} {L : Array Bool} {fuel : Nat} (is : List Nat) (d b : Bool) (h : d = b) (he : is.map (fun i => a.tmps[i]?) = is.map (fun _ => some (Value.bool d))) (k : wpAnyH P md ops Q S fuel L (putD a (is.map fun i => (i, Value.bool b))) w) : wpAnyH P md ops Q S fuel L a w := putB_same is d b h he ▸ k
theorem g_pv {P : Program} {ops : Array Oper} {Q : Exit → Act → World → Prop} {a : Act} {w : World} {l : List Oper} (n : Nat) (ds : List (Nat × Value)) (h : pureGo P ops (l.take n) a = some (putD a ds)) (k : wpList P ops Q (l.drop n) (putD a ds) w) : wpList P ops Q l a w := g_pure n _ h k
theorem h_pv {P : Program} {ops : Array Oper} {Q : Exit → Act → World → Prop} {a : Act} {w : World} {S : World → Prop} {md : Region.Mode} {L : Array Bool} (is : List Nat) (fuel : Nat) {f0 : Nat} (hf : f0 = fuel + is.length) (L' : Array Bool) (ds : List (Nat × Value)) (hs : Region.noSelect ops = true) (hQ : ∀ c a (d : Tmp) v w, Q (.panic c) (a.put (some d) v) w → Q (.panic c) a w) (h : takeGo P md ops is L a = some (L', putD a ds)) (hS : S w)
    (k : wpAnyH P md ops Q S fuel L' (putD a ds) w) : wpAnyH P md ops Q S f0 L a w := h_pure is fuel hf L' _ hs hQ h hS k
/-- what stands at a place of a list -/
def pk : List Value → Nat → Value
  | [], _ => undef
  | x :: _, 0 => x
  | _ :: r, k + 1 => pk r k
/-- of what stood, only these blocks were written -/
structure Fr (S : List Nat) (w W : World) : Prop where
  size : w.heap.size ≤ W.heap.size
  block : ∀ k, k < w.heap.size → k ∉ S → W.heap[k]? = w.heap[k]?
theorem Fr.refl (S : List Nat) (w : World) : Fr S w w := ⟨Nat.le_refl _, fun _ _ _ => rfl⟩
theorem Fr.trans {S : List Nat} {a b c : World} (h : Fr S a b) (k : Fr S b c) : Fr S a c := ⟨Nat.le_trans h.size k.size, fun i hi hs => (k.block i (Nat.lt_of_lt_of_le hi h.size) hs).trans (h.block i hi hs)⟩
theorem Fr.mono {S T : List Nat} {a b : World} (h : Fr S a b) (hs : ∀ k ∈ S, k ∈ T) : Fr T a b := ⟨h.size, fun i hi ht => h.block i hi fun hi => ht (hs i hi)⟩
theorem Fr.of_below {S : List Nat} {w W : World} (h : Below w.heap.size w W) : Fr S w W := ⟨h.size, fun k hk _ => h.block k hk⟩
theorem Fr.of_upd {S : List Nat} {w W : World} {b : Nat} (h : Upd w b W) (hb : b ∈ S) : Fr S w W := ⟨Nat.le_of_eq h.size.symm, fun k _ hs => h.block k fun e => hs (e ▸ hb)⟩
theorem Fr.upd_new {S : List Nat} {a w W : World} {b : Nat} (h : Fr S a w) (u : Upd w b W) (hb : a.heap.size ≤ b) : Fr S a W := ⟨Nat.le_trans h.size (Nat.le_of_eq u.size.symm), fun k hk hs => (u.block k (by omega)).trans (h.block k hk hs)⟩
theorem Fr.grown_new {S : List Nat} {a w W : World} {size n : Nat} {e : TypeId} {v : Value} {xs : List Value} (h : Fr S a w) (hg : w.grownBy W v.ownBlock) (hown : w.ownsRow a.heap.size e size v n xs) : Fr S a W := ⟨Nat.le_trans h.size hg.size, fun k hk hs => (hg.block k (Nat.lt_of_lt_of_le hk h.size) (fun e => by have := (hown.lt k e.symm).1; omega)).trans (h.block k hk hs)⟩
theorem Fr.of_grown {S : List Nat} {w W : World} {g n cap : Nat} (hg : w.grownBy W (Value.slice (some ⟨g, 0, none⟩) n cap).ownBlock) (hb : g ∈ S) : Fr S w W := ⟨hg.size, fun k hk hs => hg.block k hk fun e => hs (by simp only [Value.ownBlock, Option.some.injEq] at e; exact e ▸ hb)⟩
theorem Fr.trans_new {S : List Nat} {a w W : World} {z : Nat} (h : Fr S a w) (k : Fr (S ++ [z]) w W) (hz : a.heap.size ≤ z) : Fr S a W := ⟨Nat.le_trans h.size k.size, fun i hi hs => (k.block i (Nat.lt_of_lt_of_le hi h.size) (fun hm => by rcases List.mem_append.1 hm with hm | hm; exact hs hm; have := List.mem_singleton.1 hm; omega)).trans (h.block i hi hs)⟩
theorem Blk.fr {S : List Nat} {w W : World} {b : Nat} {cs : List Value} {t : TypeId} (k : Blk w b cs t) (h : Fr S w W) (hb : b ∉ S) : Blk W b cs t := (h.block b k.lt hb).trans k
theorem own_fr {S : List Nat} {w W : World} {base size n : Nat} {e : TypeId} {v : Value} {xs : List Value} (k : w.ownsRow base e size v n xs) (h : Fr S w W) (hs : ∀ b, v.ownBlock = some b → b ∉ S) : W.ownsRow base e size v n xs := by
  obtain ⟨h1, h2⟩ := k
  refine ⟨h1, ?_⟩
  rcases h2 with h2 | ⟨g, cap, cur, rfl, hg, hh, r⟩
  · exact Or.inl h2
  · exact Or.inr ⟨g, cap, cur, rfl, hg, by rw [h.block g (Array.getElem?_eq_some_iff.1 hh).1 (hs g rfl)]; exact hh, r⟩
theorem below_drew (w : World) : Below w.heap.size w w.drew := (Below.refl _ _).drew
theorem then_exit {id : Nat} {K : Act → World → Prop} {Q : Exit → Act → World → Prop} {a : Act} {w : World} (h : Q (.exit id) a w) : Exit.then K Q (.exit id) a w := h
theorem then_ret {K : Act → World → Prop} {Q : Exit → Act → World → Prop} {a : Act} {w : World} (h : Q .ret a w) : Exit.then K Q .ret a w := h
theorem inBlock_ret {id : Nat} {Q : Exit → Act → World → Prop} {a : Act} {w : World} (h : Q .ret a w) : Exit.inBlock id Q .ret a w := h
theorem inBlock_pass {id id' : Nat} {Q : Exit → Act → World → Prop} {a : Act} {w : World} (hne : (id' = id) = False) (h : Q (.exit id') a w) : Exit.inBlock id Q (.exit id') a w := by simpa [Exit.inBlock, hne] using h
theorem inBlock_hit {id : Nat} {Q : Exit → Act → World → Prop} {a : Act} {w : World} (h : Q .normal a w) : Exit.inBlock id Q (.exit id) a w := by simpa [Exit.inBlock] using h
end Go.Proofs.YtolblnjohaooaaaGreatDoor
