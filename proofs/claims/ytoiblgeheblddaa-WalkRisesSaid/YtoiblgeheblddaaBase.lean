/- General words for all walks of this seat: what a call returns while everything that lay there before is unchanged ('Ret'), slices as lists ('Sl', 'Ints'), and one rule for a region that draws its order while its operations read, or call what returns one value ('wp_region_ext'). No program is named here. -/
import Derived.WalkKit
import Derived.WalkSpells
import Derived.WalkLawsBesides
import Derived.Deep.QuietTactic
import Derived.BigQuiet
import Derived.Lib.Hide
namespace Go.Proofs.Ytoiblgeheblddaa
open Go.RowKit

def Ret (v : Value) (w : World) (e : Ending) (w' : World) : Prop := e = .returned v ∧ Below w.heap.size w w'

theorem getC {W w1 : World} (hb : Below W.heap.size W w1) {p : Addr} {v : Value} (h : W.cell? p = some v) : w1.cell? p = some v :=
  (hb.cell (World.block_lt_of_cell? W p h)).trans h
theorem ltC {w : World} {p : Addr} {v : Value} (h : w.cell? p = some v) : p.block < w.heap.size := World.block_lt_of_cell? w p h
theorem ltB {W w1 : World} (hb : Below W.heap.size W w1) {b : Nat} (h : b < W.heap.size) : b < w1.heap.size := Nat.lt_of_lt_of_le h hb.size
theorem getA {w : World} {p : Addr} {v : Value} (o : Obj) (h : w.cell? p = some v) : (w.alloc o).cell? p = some v := by
  rw [World.cell?_alloc_lt _ _ _ (ltC h)]; exact h
theorem Bl.drewN {B : Nat} {a w : World} (h : Below B a w) (n : Nat) : Below B a (w.drewN n) := ⟨h.os, h.tape, h.output, h.size, h.block⟩
/-- two steps, each from the heap as it stood -/
theorem Bl.next {a w w' : World} (h : Below a.heap.size a w) (k : Below w.heap.size w w') : Below a.heap.size a w' := h.trans (k.mono h.size)
theorem Bl.box (w : World) (o : Obj) : Below w.heap.size w (w.alloc o) := (Below.refl _ _).alloc (Nat.le_refl _) _

/-- a slice value of n elements, and the cells that it shows -/
def Sl (w : World) (v : Value) (n : Nat) (xs : List Value) : Prop :=
  (∃ a c, v = .slice a 0 c ∧ n = 0 ∧ xs = []) ∨ ∃ b off cap, v = .slice (some ⟨b, off, none⟩) n cap ∧ n ≤ cap ∧ cap ≤ maxLen ∧ ∀ j x, xs[j]? = some x → w.cell? ⟨b, off + j, none⟩ = some x
def Ints (w : World) (v : Value) (l : List Int) : Prop := Sl w v l.length (l.map (Value.int .i64))
theorem Sl.below {w w' : World} {v : Value} {n : Nat} {xs : List Value} (h : Sl w v n xs) (hb : Below w.heap.size w w') : Sl w' v n xs := by
  rcases h with h | ⟨b, off, cap, h1, h2, h3, h4⟩
  · exact .inl h
  · exact .inr ⟨b, off, cap, h1, h2, h3, fun j x hj => getC hb (h4 j x hj)⟩
theorem Ints.below {w w' : World} {v : Value} {l : List Int} (h : Ints w v l) (hb : Below w.heap.size w w') : Ints w' v l := Sl.below h hb

theorem Ints.blk {w : World} {v : Value} {l : List Int} (h : Ints w v l) (hl : l.length ≠ 0) {b off n cap : Nat} (hv : v = .slice (some ⟨b, off, none⟩) n cap) : b < w.heap.size := by
  rcases h with ⟨_, _, h1, h2, h3⟩ | ⟨b', off', cap', h1, h2, h3, h4⟩
  · exact absurd h2 hl
  · rw [hv] at h1
    simp only [Value.slice.injEq, Option.some.injEq, Addr.mk.injEq] at h1
    obtain ⟨⟨rfl, rfl, _⟩, _, _⟩ := h1
    exact ltC (h4 0 (.int .i64 l[0]) (by simp))
theorem Ints.slice {w : World} {v : Value} {l : List Int} (h : Ints w v l) : ∃ a c, v = .slice a l.length c := by
  rcases h with ⟨_, _, rfl, h, _⟩ | ⟨b, off, cap, rfl, _⟩
  · rw [h]; exact ⟨_, _, rfl⟩
  · exact ⟨_, _, rfl⟩

def RetS (R : World → Value → Prop) (w : World) (e : Ending) (w' : World) : Prop := ∃ r, e = .returned r ∧ Below w.heap.size w w' ∧ R w' r
def flat2 (l : List (Int × Int)) : List Value := l.flatMap fun p => [.int .i64 p.1, .int .i64 p.2]
def Pairs (w : World) (v : Value) (l : List (Int × Int)) : Prop := Sl w v l.length (flat2 l)

theorem flat2_length (l : List (Int × Int)) : (flat2 l).length = l.length * 2 := by
  induction l with
  | nil => rfl
  | cons x l ih => simp only [flat2, List.flatMap_cons, List.length_append] at ih ⊢; rw [ih]; simp; omega
theorem flat2_even (l : List (Int × Int)) : ∀ i : Nat, (flat2 l)[i * 2]? = l[i]?.map fun p => .int .i64 p.1 := by
  induction l with
  | nil => intro i; simp [flat2]
  | cons x l ih =>
    intro i
    cases i with
    | zero => simp [flat2]
    | succ i => have := ih i; simp only [flat2, List.flatMap_cons] at this ⊢; rw [Nat.succ_mul]; simpa using this
theorem flat2_odd (l : List (Int × Int)) : ∀ i : Nat, (flat2 l)[i * 2 + 1]? = l[i]?.map fun p => .int .i64 p.2 := by
  induction l with
  | nil => intro i; simp [flat2]
  | cons x l ih =>
    intro i
    cases i with
    | zero => simp [flat2]
    | succ i =>
      have := ih i
      simp only [flat2, List.flatMap_cons] at this ⊢
      rw [Nat.succ_mul, show i * 2 + 2 + 1 = i * 2 + 1 + 2 from by omega]
      simpa using this

theorem Sl.slice {w : World} {v : Value} {n : Nat} {xs : List Value} (h : Sl w v n xs) : ∃ a c, v = .slice a n c := by
  rcases h with ⟨_, _, rfl, h, _⟩ | ⟨b, off, cap, rfl, _⟩
  · rw [h]; exact ⟨_, _, rfl⟩
  · exact ⟨_, _, rfl⟩
theorem Sl.at {w : World} {a : Option Addr} {n c : Nat} {xs : List Value} (h : Sl w (.slice a n c) n xs) : xs = [] ∨ ∃ b off, a = some ⟨b, off, none⟩ ∧ ∀ j x, xs[j]? = some x → w.cell? ⟨b, off + j, none⟩ = some x := by
  rcases h with ⟨_, _, _, _, h2⟩ | ⟨b, off, cap, h1, _, _, h4⟩
  · exact .inl h2
  · simp only [Value.slice.injEq] at h1; exact .inr ⟨b, off, h1.1, h4⟩
theorem Sl.len {w : World} {v : Value} {n : Nat} {xs : List Value} (h : Sl w v n xs) : n ≤ 9223372036854775807 := by
  rcases h with ⟨_, _, _, h, _⟩ | ⟨b, off, cap, _, h1, h2, _⟩
  · omega
  · unfold maxLen at h2; omega
theorem Pairs.at {w : World} {a : Option Addr} {c : Nat} {l : List (Int × Int)} (h : Pairs w (.slice a l.length c) l) (k : Nat) (p : Int × Int) (hk : l[k]? = some p) :
    ∃ b off, a = some ⟨b, off, none⟩ ∧ w.cell? ⟨b, off + k * 2, none⟩ = some (.int .i64 p.1) ∧ w.cell? ⟨b, off + k * 2 + 1, none⟩ = some (.int .i64 p.2) := by
  rcases Sl.at h with h2 | ⟨b, off, h1, h2⟩
  · have := flat2_even l k; rw [h2, hk] at this; simp at this
  · exact ⟨b, off, h1, h2 _ _ (by rw [flat2_even, hk]; rfl), by rw [Nat.add_assoc]; exact h2 _ _ (by rw [flat2_odd, hk]; rfl)⟩

/-! ### the walk halts here: 'go_wp2_with (at_builtin; refine Stop.go ?_)', then 'unfold Stop' -/
def Stop (p : Prop) : Prop := p
theorem Stop.go {p : Prop} (h : Stop p) : p := h

/-! ### a row that the call owns -/
theorem own_below {w w' : World} {base : Nat} {e : TypeId} {size : Nat} {v : Value} {n : Nat} {xs : List Value} (h : w.ownsRow base e size v n xs) (hb : Below w.heap.size w w') : w'.ownsRow base e size v n xs :=
  h.kept (row := none) ⟨hb.os, hb.tape, hb.output, hb.size, fun k hk _ => hb.block k hk⟩ (by cases v.ownBlock <;> simp)
theorem own_sl {w : World} {base : Nat} {e : TypeId} {size : Nat} {v : Value} {n : Nat} {xs : List Value} (h : w.ownsRow base e size v n xs) : Sl w v n xs := by
  have hx := h.1
  rcases h.2 with ⟨rfl, rfl⟩ | ⟨g, cap, cur, rfl, _, hg, h2, h3, _, h5⟩
  · exact .inl ⟨_, _, rfl, rfl, List.eq_nil_of_length_eq_zero (by simpa using hx)⟩
  · refine .inr ⟨g, 0, cap, rfl, h2, h3, fun j x hj => ?_⟩
    have hc := h.cells (g := g) rfl j x hj
    rw [Nat.zero_add]
    by_cases h0 : j = 0
    · subst h0; simpa [Addr.add] using hc
    · simpa [Addr.add, h0] using hc
theorem grown_below {B : Nat} {w w' : World} {v : Value} {base : Nat} {e : TypeId} {size n : Nat} {xs : List Value} (hg : w.grownBy w' v.ownBlock) (h : w.ownsRow base e size v n xs) (hB : B ≤ base) (hw : B ≤ w.heap.size) : Below B w w' :=
  (Below.refl B w).grown hg hw (fun k e => Nat.le_trans hB (h.lt k e).1)

/-! ### make: n elements of zeros -/
def zeros (cs : List Value) (n : Nat) : List Value := (List.replicate n cs).flatten
theorem zeros_succ (cs : List Value) (n : Nat) : zeros cs (n + 1) = zeros cs n ++ cs := by simp [zeros, List.replicate_succ']
theorem zeros_length (cs : List Value) (n : Nat) : (zeros cs n).length = n * cs.length := by simp [zeros]
theorem made_zeros (cs : List Value) (n : Nat) : madeCells cs.toArray (n * cs.length) = (zeros cs n).toArray := by
  have h : ((List.range (n * cs.length)).map fun j => cs.toArray[j % cs.toArray.size]!) = zeros cs n := by
    induction n with
    | zero => simp [zeros]
    | succ n ih =>
      rw [Nat.succ_mul, List.range_add, List.map_append, ih, zeros_succ, List.map_map]
      congr 1
      apply List.ext_getElem
      · simp
      · intro i h1 h2
        simp [Nat.mod_eq_of_lt h2, h2]
  rw [← h]; apply Array.ext
  · simp [madeCells]
  · intro i h1 h2; simp [madeCells]
theorem make_zeros {P : Program} {t e : TypeId} {i : TypeInfo} {z : Value} (cs : List Value) (ht : P.underlying t = some (.slice e)) (hi : P.info? e = some i) (hz : i.zero = some z) (hc : z.cells = cs.toArray) (hs : i.size = cs.length) {k : Nat} (hk : i.bytes = k)
    (n : Nat) (hb : k * n ≤ 281474976710656) (hn : n ≤ 9223372036854775807) (w : World) :
    (Instr.makeSlice t (.int .i64 (n : Int)) (.int .i64 (n : Int))).run P w = .ok (.slice (some ⟨w.heap.size, 0, none⟩) n n) (w.alloc (.cells (zeros cs n).toArray e)) := by
  have hb' : (i.bytes : Int) * (n : Int) ≤ 281474976710656 := by
    have h : ((i.bytes * n : Nat) : Int) ≤ 281474976710656 := by rw [hk]; omega
    rwa [Int.natCast_mul] at h
  have hr := run_make (P := P) w t e i z ht hi hz .i64 .i64 n n (by omega) (by omega) hb' (by omega)
  simp only [Int.toNat_natCast] at hr
  rw [hr, hc, hs, made_zeros]

/-! ### A region that draws its order: in every later world -/
structure Ext (W : World) where
  val : World
  below : Below W.heap.size W val
instance (W : World) : Nonempty (Ext W) := ⟨⟨W, Below.refl _ _⟩⟩
theorem Ext.get {W : World} (z : Ext W) {p : Addr} {v : Value} (h : W.cell? p = some v) : z.val.cell? p = some v := getC z.below h
theorem Ext.lt {W : World} (z : Ext W) {b : Nat} (h : b < W.heap.size) : b < z.val.heap.size := ltB z.below h
theorem wp_region_ext {P : Program} {id : Nat} {Q : Exit → Act → World → Prop} {a : Act} {w : World} {l : List Oper} (hm : P.follows .mixedOrders = true) (hB : Region.lexB .any l.toArray = true)
    (h : wpQuiet P l.toArray (fun w' => ∃ x : Ext w, w' = x.val) (fun a' => ∀ x : Ext w, Q .normal a' x.val) l a) : (Code.region id l.toArray true).wp P Q a w :=
  wp_region_quiet (C := fun w' => ∃ x : Ext w, w' = x.val) hm hB ⟨⟨_, (Below.refl _ w).drew⟩, rfl⟩ (by
    have e : (fun a' => ∀ x : Ext w, Q .normal a' x.val) = (fun a' => ∀ w', (∃ x : Ext w, w' = x.val) → Q .normal a' w') := by
      funext a'; apply propext; exact ⟨fun h w' ⟨x, hx⟩ => hx ▸ h x, fun h x => h _ ⟨x, rfl⟩⟩
    rw [e] at h; simpa using h)
theorem Ret.ext {P : Program} {f : FuncId} {args : Array Value} {w : World} {v : Value} {x : Ext w} (h : Calls P f args x.val (Ret v x.val)) :
    Calls P f args x.val fun e w'' => e = .returned v ∧ ∃ y : Ext w, w'' = y.val :=
  h.mono fun _ w'' ⟨he, hb⟩ => ⟨he, ⟨w'', x.below.trans (hb.mono x.below.size)⟩, rfl⟩
end Go.Proofs.Ytoiblgeheblddaa

