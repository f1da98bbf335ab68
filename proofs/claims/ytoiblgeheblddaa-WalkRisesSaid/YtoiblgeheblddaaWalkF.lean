/- What a scan computes, in plain Lean: the walker's state, a visit, and how the state lies in memory. -/
import Derived.Test.YtoiblgeheblddaaAppAt
import Derived.Test.YtoiblgeheblddaaRdRoot
namespace Go.Proofs.Ytoiblgeheblddaa
open Go.RowKit Go.Extern.Stop Go.Stop Go.Extern
set_option linter.unusedVariables false
/-- what a walker has found so far; a fault: the blocks of its way, and its number -/
structure WS where
  es : List Ent
  bs : List Int
  deep : Int
  looked : Nat
  fs : List (List Int × Int)
  dry : Bool
def noteW (way bs : List Int) (c : Int) (s : WS) : WS := { s with fs := s.fs ++ [(way ++ bs, c)] }
/-- the child of the inner node no, its value val, its span p; V: the visit one deeper -/
def childW (V : List Int → Int → Int → Int → WS → WS) (way : List Int) (no : Int) (val : List UInt8) (p : Int × Int) (s : WS) : WS :=
  if rootE val = 0 then V (way ++ [no]) (rootN val : Int) p.1 p.2 s else noteW way [no] (rootE val) s
def nodK (l : List UInt8) (no : Int) : List Int := keysI (inB l no) (nodC (inB l no))
def nodV (l : List UInt8) (no : Int) : List (List UInt8) := valsL (inB l no) (nodC (inB l no))
/-- child number i, unless the fuel is used up -/
def roundW (V : List Int → Int → Int → Int → WS → WS) (l : List UInt8) (way : List Int) (no hi : Int) (s : WS) (i : Nat) : WS :=
  if s.dry = true then s else childW V way no ((nodV l no).getD i []) (partAt hi (nodK l no) i) s
def loopW (V : List Int → Int → Int → Int → WS → WS) (l : List UInt8) (way : List Int) (no hi : Int) (k : Nat) (s : WS) : WS := (List.range k).foldl (roundW V l way no hi) s
/-- a visit at most d deep -/
def visitF (l : List UInt8) (tree fuel : Int) : Nat → List Int → Int → Int → Int → WS → WS
  | 0, _, _, _, _, s => s
  | d + 1, way, no, lo, hi, s =>
    if fuel ≤ s.looked then { noteW way [no] 12 s with dry := true }
    else if lookE l way no tree lo hi s.deep ≠ 0 then noteW way [no] (lookE l way no tree lo hi s.deep) { s with looked := s.looked + 1 }
    else if nodL (inB l no) = true then { s with looked := s.looked + 1, bs := s.bs ++ [no], deep := ((way.length + 1 : Nat) : Int), es := s.es ++ leafL (nodK l no) (nodV l no) no (nodC (inB l no)) }
    else loopW (visitF l tree fuel d) l way no hi (nodC (inB l no)) { s with looked := s.looked + 1, bs := s.bs ++ [no] }
theorem loopW_succ (V : List Int → Int → Int → Int → WS → WS) (l : List UInt8) (way : List Int) (no hi : Int) (k : Nat) (s : WS) : loopW V l way no hi (k + 1) s = roundW V l way no hi (loopW V l way no hi k s) k := by
  simp [loopW, List.range_succ]
theorem roundW_dry (V : List Int → Int → Int → Int → WS → WS) (l : List UInt8) (way : List Int) (no hi : Int) (s : WS) (i : Nat) (h : s.dry = true) : roundW V l way no hi s i = s := by simp [roundW, h]
/-- once the fuel is used up nothing comes -/
theorem loopW_dry (V : List Int → Int → Int → Int → WS → WS) (l : List UInt8) (way : List Int) (no hi : Int) (s : WS) {k n : Nat} (hk : k ≤ n) (h : (loopW V l way no hi k s).dry = true) : loopW V l way no hi n s = loopW V l way no hi k s := by
  induction n with
  | zero => obtain rfl : k = 0 := by omega
            rfl
  | succ n ih =>
    rcases Nat.lt_or_ge n k with q | q
    · obtain rfl : k = n + 1 := by omega
      rfl
    · rw [loopW_succ, ih q, roundW_dry _ _ _ _ _ _ _ h]
/-- the faults lie in memory -/
def FltsW (w : World) : List (List Int × Int) → List Value → Prop
  | [], [] => True
  | f :: r, v :: q => ErrV w (f.1.map some) (some f.2) v ∧ FltsW w r q
  | _, _ => False
theorem FltsW.kept {w W : World} (hb : ∀ blk cs, Blk w blk cs 64 → Blk W blk cs 64) : ∀ {fs : List (List Int × Int)} {vs : List Value}, FltsW w fs vs → FltsW W fs vs
  | [], [], h => h
  | _ :: _, _ :: _, h => ⟨h.1.kept hb, FltsW.kept hb h.2⟩
  | [], _ :: _, h => h.elim
  | _ :: _, [], h => h.elim
theorem FltsW.only {T : List TypeId} {w W : World} {fs : List (List Int × Int)} {vs : List Value} (h : FltsW w fs vs) (k : Only T w W) (hT : T.contains 64 = false) : FltsW W fs vs := h.kept fun _ _ q => q.only k hT
theorem FltsW.below {w W : World} {fs : List (List Int × Int)} {vs : List Value} (h : FltsW w fs vs) (hb : Below w.heap.size w W) : FltsW W fs vs := h.kept fun _ _ q => q.below hb
theorem FltsW.snoc {w : World} {f : List Int × Int} {v : Value} (hv : ErrV w (f.1.map some) (some f.2) v) : ∀ {fs : List (List Int × Int)} {vs : List Value}, FltsW w fs vs → FltsW w (fs ++ [f]) (vs ++ [v])
  | [], [], _ => ⟨hv, trivial⟩
  | _ :: _, _ :: _, h => ⟨h.1, FltsW.snoc hv h.2⟩
  | [], _ :: _, h => h.elim
  | _ :: _, [], h => h.elim
/-- a walker's state in memory -/
structure WalkR (B bw Bi b : Nat) (pi : Option Addr) (ni ci : Nat) (l : List UInt8) (tree fuel : Int) (way : List Int) (s : WS) (pe pb pf pw : Option Addr) (ce cb cf cw : Nat) (fv : List Value) (w : World) : Prop where
  blk : Blk w bw [.slice pe s.es.length ce, .slice pb s.bs.length cb, .int .i64 s.deep, .int .i64 (s.looked : Int), .slice pf s.fs.length cf, .pointer (some ⟨b, 0, none⟩), .int .i64 tree, .int .i64 fuel, .slice pw way.length cw, .bool s.dry] 53
  ents : w.ownsRow B 33 3 (.slice pe s.es.length ce) s.es.length (s.es.flatMap entC)
  blks : w.ownsRow B 3 1 (.slice pb s.bs.length cb) s.bs.length (s.bs.map (Value.int .i64))
  flts : w.ownsRow B 38 1 (.slice pf s.fs.length cf) s.fs.length fv
  fltv : FltsW w s.fs fv
  ways : w.ownsRow B 3 1 (.slice pw way.length cw) way.length (way.map (Value.int .i64))
  apart : Apart (.slice pb s.bs.length cb) (.slice pw way.length cw)
  img : ImgR Bi b pi ni ci l w
/-- what a visit does: the state s becomes the state t -/
def VisitP (B bw Bi b : Nat) (pi : Option Addr) (ni ci : Nat) (l : List UInt8) (tree fuel : Int) (way : List Int) (t : WS) (w : World) (e : Ending) (w' : World) : Prop :=
  ∃ u pe pb pf pw ce cb cf cw fv, e = .returned u ∧ Below B w w' ∧ Only [53, 33, 3, 38] w w' ∧ WalkR B bw Bi b pi ni ci l tree fuel way t pe pb pf pw ce cb cf cw fv w'
end Go.Proofs.Ytoiblgeheblddaa

