/- What build.level lays and hands up: plain definitions and lemmas. -/
import Derived.Test.YtlmogdjcnbjhfaaDoorBuild1
import Derived.Test.YtlmogdjcnbjhfaaDoorAllocPl
import Derived.Test.YtlmogdjcnbjhfaaDoorRoot
namespace Go.Proofs.YtlmogdjcnbjhfaaDoor
open Go.RowKit Go.Extern.Stop Go.Stop Go.Extern
set_option linter.unusedVariables false

theorem Sts.cut {α : Type} {f : α → List Value} {m : Nat} {w : World} {b : Option Addr} {c : Nat} {l : List α} (hm : ∀ x, (f x).length = m) (h : Sts f w (.slice b l.length c) l) (k : Nat) (hk : k ≤ l.length) : Sts f w (.slice (cutA b k c m) (l.drop k).length (c - k)) (l.drop k) := by
  have hlen : (l.drop k).length = l.length - k := by simp
  have hcap := Sl.cap h
  by_cases hkn : k = l.length
  · refine .inl ⟨cutA b k c m, c - k, by rw [show (l.drop k).length = 0 by omega], by omega, ?_⟩
    rw [List.drop_eq_nil_of_le (by omega)]; rfl
  rcases h with ⟨a', c', h1, h2, h3⟩ | ⟨g, off, cap, h1, h2, h3, h4⟩
  · omega
  · simp only [Value.slice.injEq] at h1
    obtain ⟨rfl, _, rfl⟩ := h1
    refine .inr ⟨g, off + k * m, c - k, ?_, by omega, by omega, fun j x hj => ?_⟩
    · rw [cutA, if_neg (by omega)]; simp [Addr.add]
    · have hfl : (l.drop k).flatMap f = (l.flatMap f).drop (k * m) := by
        conv => rhs; rw [← List.take_append_drop k l, List.flatMap_append]
        rw [List.drop_left' (by rw [flat_length hm, List.length_take, Nat.min_eq_left hk])]
      rw [hfl, List.getElem?_drop] at hj
      have := h4 _ _ hj
      rwa [← Nat.add_assoc] at this
theorem Al.only {B ba b g n c : Nat} {pa : Option Addr} {ca f N k : Nat} {l : List UInt8} {w W : World} {T : List TypeId} (h : Al B ba b g n c pa ca f N k l w) (hO : Only T w W) (hT : (T.contains 54 || T.contains 60 || T.contains 5 || T.contains 3) = false) : Al B ba b g n c pa ca f N k l W := by
  simp only [Bool.or_eq_false_iff] at hT
  exact ⟨h.blkA.only hO hT.1.1.1, h.blkI.only hO hT.1.1.2, own_only h.data hO hT.1.2, own_only h.nums hO hT.2⟩
/-- the entries of node i -/
def chunkE (l : List Ent) (m i : Nat) : List Ent := (l.drop (i * m)).take m
def keysE (c : List Ent) : List Int := c.map (·.1)
def valsE (c : List Ent) : List (List UInt8) := c.map (·.2.1)
/-- the bytes of a node -/
def nodeE (t : Int) (leaf : Bool) (m v : Nat) (c : List Ent) : List UInt8 := nodeP m v (headB t leaf c.length m v) (keysE c) (valsE c) c.length
/-- a level's nodes laid from number q on -/
def levB (t : Int) (leaf : Bool) (m v : Nat) (l : List Ent) (q : Nat) (bs : List UInt8) : Nat → List UInt8
  | 0 => bs
  | i + 1 => putB (levB t leaf m v l q bs i) ((q + i) * 256) (sealB 2 ((q + i : Nat) : Int) (nodeE t leaf m v (chunkE l m i)))
def upX (l : List Ent) (m q i : Nat) : Ent := (((chunkE l m i).getD 0 entD).1, leB ((q + i : Nat) : Int) 4, ((q + i : Nat) : Int))
/-- the entries of the level above -/
def upE (l : List Ent) (m q j : Nat) : List Ent := (List.range j).map (upX l m q)
theorem upE_succ (l : List Ent) (m q j : Nat) : upE l m q (j + 1) = upE l m q j ++ [upX l m q j] := by simp [upE, List.range_succ]
theorem upE_len (l : List Ent) (m q j : Nat) : (upE l m q j).length = j := by simp [upE]
theorem upE_get {l : List Ent} {m q j i : Nat} (h : i < j) : (upE l m q j).getD i entD = upX l m q i := by simp [upE, List.getD, List.getElem?_range h]
theorem chunk_len (l : List Ent) (m i : Nat) : (chunkE l m i).length = sizN l.length m i := by simp [chunkE, sizN]
theorem chunk_get {l : List Ent} {m i j : Nat} (h : j < sizN l.length m i) : (chunkE l m i).getD j entD = l.getD (i * m + j) entD := by
  unfold sizN at h
  simp [chunkE, List.getD, List.getElem?_take_of_lt (show j < m by omega), List.getElem?_drop]
theorem keysE_get {c : List Ent} {j : Nat} (h : j < c.length) : (keysE c).getD j 0 = (c.getD j entD).1 := by simp [keysE, List.getD, h]
theorem valsE_get {c : List Ent} {j : Nat} (h : j < c.length) : (valsE c).getD j [] = (c.getD j entD).2.1 := by simp [valsE, List.getD, h]
theorem keysE_len (c : List Ent) : (keysE c).length = c.length := by simp [keysE]
theorem valsE_len (c : List Ent) : (valsE c).length = c.length := by simp [valsE]
theorem siz_lt {n m i : Nat} (hm : 1 ≤ m) (hn : 1 ≤ n) (h : i < ovN n m) : i * m < n := by
  unfold ovN at h
  rcases Nat.eq_zero_or_pos i with rfl | hi
  · omega
  have h2 : i < (n + m - 1) / m := by omega
  have h3 := (Nat.lt_div_iff_mul_lt (by omega)).1 h2
  omega
theorem chunk_ok {t : Int} {leaf : Bool} {m v : Nat} {l : List Ent} (E : EntsOk v l) (h1 : 1 ≤ t) (h2 : t ≤ 5) (hm : maxN t leaf = m) (hv : widN t leaf = v) (hl : leaf = false → 1 ≤ l.length) {i : Nat} (hi : i < ovN l.length m) : NodeOk t leaf (chunkE l m i).length m v (keysE (chunkE l m i)) (valsE (chunkE l m i)) := by
  have hm1 := (maxN_pos t leaf).1
  rw [hm] at hm1
  have hlen := chunk_len l m i
  have hile := siz_le hm1 hi
  have hle : (chunkE l m i).length ≤ l.length - i * m := by rw [hlen]; unfold sizN; omega
  have key : ∀ j, j < (chunkE l m i).length → i * m + j < l.length ∧ (keysE (chunkE l m i)).getD j 0 = (l.getD (i * m + j) entD).1 ∧ (valsE (chunkE l m i)).getD j [] = (l.getD (i * m + j) entD).2.1 := fun j hj => by
    refine ⟨by omega, ?_, ?_⟩
    · rw [keysE_get hj, chunk_get (by omega)]
    · rw [valsE_get hj, chunk_get (by omega)]
  refine ⟨h1, h2, hm, hv, keysE_len _, valsE_len _, by rw [hlen]; unfold sizN; omega, fun h => ?_, fun j hj => ?_, fun j hj => ?_, fun j hj => ?_⟩
  · have := siz_lt hm1 (hl h) hi
    rw [hlen]; unfold sizN; omega
  · obtain ⟨a1, a2, _⟩ := key j hj
    rw [a2]; exact E.hk _ a1
  · obtain ⟨a1, a2, _⟩ := key j (by omega)
    obtain ⟨b1, b2, _⟩ := key (j + 1) hj
    rw [a2, b2]; exact E.hs _ (by omega)
  · obtain ⟨a1, _, a3⟩ := key j hj
    rw [a3]; exact E.hw _ a1
theorem nodeE_len {t : Int} {leaf : Bool} {m v : Nat} {c : List Ent} (N : NodeOk t leaf c.length m v (keysE c) (valsE c)) : (nodeE t leaf m v c).length = 244 := by
  have hf := fitN t leaf
  rw [N.hm, N.hv] at hf
  exact nodeP_len (headB_len _ _ _ _ _) hf N.hn (fun j hj => N.hw j hj)
theorem siz_elem {w : World} {b : Option Addr} {n m c : Nat} (h : Sl w (.slice b (ovN n m) c) (ovN n m) ((sizL n m).map nv)) {k : Nat} (hk : k < ovN n m) : b.isSome = true ∧ w.cell? (elemAddr b (k * 1)) = some (.int .i64 ((sizN n m k : Nat) : Int)) := by
  have := nv_elem h (sizL_len n m) hk
  rwa [show (sizL n m).getD k 0 = sizN n m k from by simp [sizL, List.getD, List.getElem?_range hk]] at this
theorem keys_take {l : List Ent} {j : Nat} (h : j < l.length) : ((keysE l).take (j + 1)).map (Value.int .i64) = ((keysE l).take j).map (Value.int .i64) ++ [.int .i64 (l.getD j entD).1] := by
  rw [List.take_succ_eq_append_getElem (by rw [keysE_len]; exact h)]
  simp [keysE, List.getD, h]
theorem vals_take {l : List Ent} {j : Nat} (h : j < l.length) : ((valsE l).take (j + 1)).map sv = ((valsE l).take j).map sv ++ [.string ⟨(l.getD j entD).2.1.toArray⟩] := by
  rw [List.take_succ_eq_append_getElem (by rw [valsE_len]; exact h)]
  simp [valsE, List.getD, h, sv]
theorem keys_chunk {l : List Ent} {m i s : Nat} (hs : sizN l.length m i = s) : (keysE (l.drop (i * m))).take s = keysE (chunkE l m i) := by
  subst hs
  unfold keysE chunkE sizN
  rw [← List.map_take]
  congr 1
  rw [List.take_eq_take_iff]; simp
theorem vals_chunk {l : List Ent} {m i s : Nat} (hs : sizN l.length m i = s) : (valsE (l.drop (i * m))).take s = valsE (chunkE l m i) := by
  subst hs
  unfold valsE chunkE sizN
  rw [← List.map_take]
  congr 1
  rw [List.take_eq_take_iff]; simp
theorem EntsOk.mono {v : Nat} {l : List Ent} (E : EntsOk v l) : ∀ {a b : Nat}, a < b → b < l.length → (l.getD a entD).1 < (l.getD b entD).1 := by
  intro a b h hb
  induction b with
  | zero => omega
  | succ b ih =>
    have h1 := E.hs b (by omega)
    rcases Nat.lt_or_ge a b with h2 | h2
    · have := ih h2 (by omega); omega
    · obtain rfl : a = b := by omega
      exact h1
theorem up_key {v : Nat} {l : List Ent} {m : Nat} (hm : 1 ≤ m) (hl : 1 ≤ l.length) {i q : Nat} (hi : i < ovN l.length m) : (upX l m q i).1 = (l.getD (i * m) entD).1 ∧ i * m < l.length := by
  have h := siz_lt hm hl hi
  refine ⟨?_, h⟩
  unfold upX
  rw [chunk_get (by unfold sizN; omega)]; rfl
theorem up_ok {v : Nat} {l : List Ent} (E : EntsOk v l) {m q : Nat} (hm : 1 ≤ m) : EntsOk 4 (upE l m q (ovN l.length m)) := by
  rcases Nat.eq_zero_or_pos l.length with h0 | hl
  · have h1 : ovN l.length m = 1 := by
      rw [h0]; unfold ovN
      have : (0 + m - 1) / m = 0 := Nat.div_eq_of_lt (by omega)
      omega
    have hnil : l = [] := List.eq_nil_of_length_eq_zero h0
    subst hnil
    constructor
    · intro i hi; rw [upE_len, h1] at hi; rw [upE_get (by omega)]; simp [upX, chunkE, entD]
    · intro j hj; rw [upE_len, h1] at hj; omega
    · intro i hi; rw [upE_len, h1] at hi; rw [upE_get (by omega)]; simp [upX, leB_len]
  constructor
  · intro i hi
    rw [upE_len] at hi
    obtain ⟨h1, h2⟩ := up_key (v := v) (q := q) hm hl hi
    rw [upE_get hi, h1]; exact E.hk _ h2
  · intro j hj
    rw [upE_len] at hj
    obtain ⟨h1, h2⟩ := up_key (v := v) (q := q) hm hl hj
    obtain ⟨h3, h4⟩ := up_key (v := v) (q := q) hm hl (show j < ovN l.length m by omega)
    rw [upE_get hj, upE_get (by omega), h1, h3]
    refine E.mono ?_ h2
    rw [Nat.add_mul]; omega
  · intro i hi
    rw [upE_len] at hi
    rw [upE_get hi]; simp [upX, leB_len]
/-- the levels above: the root's number, and the bytes -/
def treeUp (t : Int) (u : List Ent) (q : Nat) (bs : List UInt8) : Int × List UInt8 :=
  if h : u.length ≤ 1 then ((u.getD 0 entD).2.2, bs)
  else treeUp t (upE u 18 q (ovN u.length 18)) (q + ovN u.length 18) (levB t false 18 4 u q bs (ovN u.length 18))
termination_by u.length
decreasing_by rw [upE_len]; have := ov18 (x := u.length) (by omega); omega
theorem treeUp_one {t : Int} {u : List Ent} {q : Nat} {bs : List UInt8} (h : u.length ≤ 1) : treeUp t u q bs = ((u.getD 0 entD).2.2, bs) := by rw [treeUp]; simp [h]
theorem treeUp_more {t : Int} {u : List Ent} {q : Nat} {bs : List UInt8} (h : ¬ u.length ≤ 1) : treeUp t u q bs = treeUp t (upE u 18 q (ovN u.length 18)) (q + ovN u.length 18) (levB t false 18 4 u q bs (ovN u.length 18)) := by rw [treeUp]; simp [h]
/-- a packed tree laid from number q on -/
def treeB (t : Int) (l : List Ent) (q : Nat) (bs : List UInt8) : Int × List UInt8 :=
  treeUp t (upE l (maxN t true) q (ovN l.length (maxN t true))) (q + ovN l.length (maxN t true)) (levB t true (maxN t true) (widN t true) l q bs (ovN l.length (maxN t true)))
/-- the root is the last number -/
theorem treeUp_root {t : Int} {u : List Ent} {q : Nat} {bs : List UInt8} (h1 : 1 ≤ u.length) (hu : (u.getD (u.length - 1) entD).2.2 = ((q - 1 : Nat) : Int)) (hq : 1 ≤ q) : (treeUp t u q bs).1 = ((q - 1 + ((levs u.length).sum - u.length) : Nat) : Int) := by
  induction hx : u.length using Nat.strongRecOn generalizing u q bs with
  | _ x ih =>
    subst hx
    by_cases h : u.length ≤ 1
    · rw [treeUp_one h, levs_one h]
      rw [show u.length - 1 = 0 by omega] at hu
      show (u.getD 0 entD).2.2 = _
      rw [hu]; simp
    · have h18 := ov18 (x := u.length) (by omega)
      have hp := ovN_pos u.length 18
      rw [treeUp_more h, ih (ovN u.length 18) (by omega) (u := upE u 18 q (ovN u.length 18)) (q := q + ovN u.length 18) (by rw [upE_len]; exact hp) ?_ (by omega) (upE_len _ _ _ _), levs_more h]
      · have hge := levs_ge (ovN u.length 18)
        simp only [List.sum_cons]
        congr 1
        omega
      · rw [upE_len, upE_get (by omega)]
        simp only [upX]
        congr 1
        omega
/-- an allocator's next number q is handed out, and its block written -/
def LaidQ (B ba b g n c : Nat) (pa : Option Addr) (ca f N k : Nat) (l : List UInt8) (kind : Int) (li : List UInt8) (q : Nat) (w : World) (e : Ending) (w' : World) : Prop :=
  e = .returned (.tuple #[.int .i64 (q : Int), .nilIface]) ∧ Below B w w' ∧ Only [54, 5] w w' ∧ Fr [ba, g] w w' ∧ Al B ba b g n c pa ca f N (k + 1) (putB l (q * 256) (sealB kind (q : Int) li)) w'
theorem alloc_LayQ (B ba b g n c : Nat) (p : Option Addr) (ca f N k : Nat) (l : List UInt8) (kind : Int) (a : Option Addr) (ci : Nat) (li : List UInt8) (q n' : Nat) (w : World) (hq : f + k = q) (hn' : li.length = n') (hC : AlC B ba n c ca f N) (hA : Al B ba b g n c p ca f N k l w) (hkN : k < N) (h1 : 1 ≤ kind) (h2 : kind ≤ 4) (hin : ∀ W, Below B w W → Only [54] w W → Bys W (.slice a n' ci) li) (hl : n' ≤ 244) (hBw : B ≤ w.heap.size) :
    Calls Tryd.prog 29 #[.pointer (some ⟨ba, 0, none⟩), .int .i64 kind, .slice a n' ci] w (LaidQ B ba b g n c p ca f N k l kind li q w) := by
  subst hq hn'; exact alloc_Lay B ba b g n c p ca f N k l kind a ci li w hC hA hkN h1 h2 hin hl hBw
theorem up_row {l : List Ent} {m q i : Nat} {key : Int} (hk : key = ((chunkE l m i).getD 0 entD).1) : (upE l m q i).flatMap entC ++ [.int .i64 key, .string ⟨(leB ((q + i : Nat) : Int) 4).toArray⟩, .int .i64 ((q + i : Nat) : Int)] = (upE l m q (i + 1)).flatMap entC := by
  subst hk; rw [upE_succ]; simp [entC, upX]
theorem chunk_key {l : List Ent} {m i j : Nat} (hs : sizN l.length m i = j) (hj : 0 < j) : ((keysE (chunkE l m i))).getD 0 0 = ((chunkE l m i).getD 0 entD).1 := keysE_get (by rw [chunk_len]; omega)
theorem chunk_nokey {l : List Ent} {m i j : Nat} (hs : sizN l.length m i = j) (hj : j = 0) : (0 : Int) = ((chunkE l m i).getD 0 entD).1 := by
  have : chunkE l m i = [] := List.eq_nil_of_length_eq_zero (by rw [chunk_len]; omega)
  rw [this]; rfl
end Go.Proofs.YtlmogdjcnbjhfaaDoor

