/- Child and Split of package span return the plain functions below, for any span and any slice of keys. -/
import Derived.Test.YtoiblgeheblddaaSpanEach
import Derived.Test.YtoiblgeheblddaaRange
namespace Go.Proofs.Ytoiblgeheblddaa
open Go.RowKit
set_option linter.unusedVariables false
attribute [local go_sem] Oper.semAt_some

def splitL (hi : Int) (l : List Int) : List (Int × Int) := (List.range l.length).map (partAt hi l)
/-- the child of number i -/
def childI (lo hi : Int) (l : List Int) (i : Int) : (Int × Int) × Int :=
  if fitsI lo hi l = 0 then if 0 ≤ i ∧ i < l.length then (partAt hi l i.toNat, 0) else ((0, 0), 3) else ((0, 0), fitsI lo hi l)

theorem child_bad {lo hi i : Int} {l : List Int} (h : fitsI lo hi l ≠ 0) : childI lo hi l i = ((0, 0), fitsI lo hi l) := by simp [childI, h]
theorem child_out {lo hi i : Int} {l : List Int} (h : fitsI lo hi l = 0) (hi' : ¬ (0 ≤ i ∧ i < l.length)) : childI lo hi l i = ((0, 0), 3) := by simp only [childI, h, if_true]; rw [if_neg hi']
theorem child_in {lo hi : Int} {l : List Int} {i : Nat} (h : fitsI lo hi l = 0) (hi' : i < l.length) : childI lo hi l i = (partAt hi l i, 0) := by
  simp only [childI, h, if_true]; rw [if_pos ⟨by omega, by omega⟩]; simp
theorem each_none {i : Int} {n : Nat} (h : ∀ x ∈ List.finRange n, (qOf x : Int) ≠ i) : ¬ (0 ≤ i ∧ i < n) := fun ⟨h1, h2⟩ => by
  refine h ⟨n - 1 - i.toNat, by omega⟩ (by simp) ?_
  simp only [qOf]; omega
theorem each_last {lo hi i : Int} {l : List Int} {x : Fin l.length} (hf : fitsI lo hi l = 0) (hx : (qOf x : Int) = i) : childI lo hi l i = (partAt hi l (qOf x), 0) := by
  rw [← hx]; exact child_in hf (by have := x.2; simp only [qOf]; omega)
theorem below_child {w w' : World} {B : Nat} (h : Below w.heap.size w w') (hB : w.heap.size ≤ B) {i j k : Nat} {x y z : Value} {C : Nat} (hC : w.heap.size ≤ C) :
    Below w.heap.size w (((w'.setCell ⟨B, i, none⟩ x).setCell ⟨B, j, none⟩ y).setCell ⟨C, k, none⟩ z) := ((h.setCell hB _).setCell hB _).setCell hC _

/-- the result's cells when the rounds of pre are over -/
def outStep (hi : Int) (l : List Int) (cs : List Value) (x : Fin l.length) : List Value :=
  (cs.set (qOf x * 2) (.int .i64 (partAt hi l (qOf x)).1)).set (qOf x * 2 + 1) (.int .i64 (partAt hi l (qOf x)).2)
def outC (hi : Int) (l : List Int) (pre : List (Fin l.length)) : List Value := pre.foldl (outStep hi l) (zeros [.int .i64 0, .int .i64 0] l.length)
theorem outC_snoc (hi : Int) (l : List Int) (pre : List (Fin l.length)) (x : Fin l.length) : outC hi l (pre ++ [x]) = outStep hi l (outC hi l pre) x := by simp [outC]
theorem outFold_length (hi : Int) (l : List Int) : ∀ (pre : List (Fin l.length)) (cs : List Value), (pre.foldl (outStep hi l) cs).length = cs.length
  | [], _ => rfl
  | x :: pre, cs => by rw [List.foldl_cons, outFold_length hi l pre]; simp [outStep]
theorem outC_length (hi : Int) (l : List Int) (pre : List (Fin l.length)) : (outC hi l pre).length = l.length * 2 := by
  rw [outC, outFold_length, zeros_length]; rfl
theorem outFold_get (hi : Int) (l : List Int) (q : Nat) (hq : q < l.length) : ∀ (pre : List (Fin l.length)) (cs : List Value), cs.length = l.length * 2 →
    ((∃ x ∈ pre, qOf x = q) ∨ (cs[q * 2]? = some (.int .i64 (partAt hi l q).1) ∧ cs[q * 2 + 1]? = some (.int .i64 (partAt hi l q).2))) →
    (pre.foldl (outStep hi l) cs)[q * 2]? = some (.int .i64 (partAt hi l q).1) ∧ (pre.foldl (outStep hi l) cs)[q * 2 + 1]? = some (.int .i64 (partAt hi l q).2)
  | [], cs, hl, h => by
    rcases h with ⟨x, hx, _⟩ | h
    · cases hx
    · exact h
  | x :: pre, cs, hl, h => by
    rw [List.foldl_cons]
    refine outFold_get hi l q hq pre _ (by simp [outStep, hl]) ?_
    by_cases hx : qOf x = q
    · subst hx
      refine .inr ⟨?_, ?_⟩
      · simp only [outStep]; rw [List.getElem?_set_ne (by omega), List.getElem?_set_self (by omega)]
      · simp only [outStep]; rw [List.getElem?_set_self (by simp; omega)]
    · rcases h with ⟨y, hy, hyq⟩ | h
      · rcases List.mem_cons.1 hy with rfl | hy
        · exact absurd hyq hx
        · exact .inl ⟨y, hy, hyq⟩
      · refine .inr ⟨?_, ?_⟩
        · simp only [outStep]; rw [List.getElem?_set_ne (by omega), List.getElem?_set_ne (by omega)]; exact h.1
        · simp only [outStep]; rw [List.getElem?_set_ne (by omega), List.getElem?_set_ne (by omega)]; exact h.2
theorem outC_all (hi : Int) (l : List Int) : outC hi l (List.finRange l.length) = flat2 (splitL hi l) := by
  have hs : (splitL hi l).length = l.length := by simp [splitL]
  have hg : ∀ q, q < l.length → (splitL hi l)[q]? = some (partAt hi l q) := fun q hq => by simp [splitL, hq]
  apply List.ext_getElem?
  intro j
  by_cases hj : j < l.length * 2
  · have hq : j / 2 < l.length := by omega
    have h := outFold_get hi l (j / 2) hq (List.finRange l.length) (zeros [.int .i64 0, .int .i64 0] l.length) (by rw [zeros_length]; rfl)
      (.inl ⟨⟨l.length - 1 - j / 2, by omega⟩, by simp, by simp only [qOf]; omega⟩)
    by_cases h2 : j % 2 = 0
    · have e : j = j / 2 * 2 := by omega
      rw [e, flat2_even, hg _ hq]; exact h.1
    · have e : j = j / 2 * 2 + 1 := by omega
      rw [e, flat2_odd, hg _ hq]; exact h.2
  · rw [List.getElem?_eq_none (by rw [outC_length]; omega), List.getElem?_eq_none (by rw [flat2_length, hs]; omega)]
def splitR (lo hi : Int) (l : List Int) : List (Int × Int) := if fitsI lo hi l = 0 then splitL hi l else []
theorem Try.info56 : (Try.prog.info? 56).map (fun i => (i.zero, i.size, i.bytes)) = some (some (.agg #[.int .i64 0, .int .i64 0]), 2, 16) := by kernel_rfl

set_option maxRecDepth 100000 in
set_option maxHeartbeats 2000000 in
theorem span_split2 (lo hi : Int) (v : Value) (l : List Int) (w : World) (hlen : l.length ≤ 1000000) (hl : Ints w v l) :
    Calls Try.prog 32 #[spanV lo hi, v] w (RetS (fun w' r => Pairs w' r (splitR lo hi l) ∧ (fitsI lo hi l = 0 → ∃ g, r = .slice (some ⟨g, 0, none⟩) l.length l.length ∧ w.heap.size ≤ g ∧ Blk w' g (flat2 (splitL hi l)) 56)) w) := by
  obtain ⟨i0, hi0, hz0, hz1, hz2⟩ := info_parts Try.info56
  have hmk := fun w => make_zeros (P := Try.prog) (t := 79) (e := 56) (i := i0) [.int .i64 0, .int .i64 0] Try.underlying79 hi0 hz0 rfl hz1 hz2 l.length (by omega) (by omega) w
  clear hi0 hz0 hz1 hz2
  unfold spanV
  refine calls_of_marks Try.func32 rfl ?_
  simp only [Try.ntmps32, List.size_toArray, List.length_cons, List.length_nil, Nat.reduceAdd, Nat.reduceSub, Array.replicate_succ, Array.replicate_zero, List.push_toArray, List.append_toArray, List.nil_append, List.cons_append]
  go_wp2_with fail
  refine (span_fits lo hi v l _ (hl.below (Bl.box _ _))).mono ?_
  rintro e w' ⟨rfl, hb⟩
  have k0 := Blk.below (Blk.new w [.int .i64 lo, .int .i64 hi] 56) hb
  have hB : Below w.heap.size w w' := Bl.next (Bl.box _ _) hb
  have hl' := hl.below hB
  have HB : l.length ≠ 0 → ∀ {b off n cap : Nat}, v = .slice (some ⟨b, off, none⟩) n cap → b < w.heap.size := fun h _ _ _ _ e => hl.blk h e
  clear hb hl
  obtain ⟨a, c, rfl⟩ := hl'.slice
  have z0 := k0.lt
  have c00 := k0.cell (i := 0) rfl
  have c01 := k0.cell (i := 1) rfl
  by_cases hf : fitsI lo hi l = 0
  case neg =>
    have hf2 : (fitsI lo hi l != 0) = true := by simpa using hf
    have HF := Lib.hid hf; clear hf
    go_wp2_with fail
    refine ⟨_, results_tmp rfl _ _ _, ?_⟩
    have e : splitR lo hi l = [] := by simp [splitR, HF.out]
    rw [e]
    exact ⟨_, rfl, hB, .inl ⟨_, _, rfl, rfl, rfl⟩, fun q => absurd q HF.out⟩
  have hf2 : (fitsI lo hi l != 0) = false := by simpa using hf
  have HF := Lib.hid hf; clear hf
  go_wp2_with fail
  refine (span_each lo hi a l.length c _).mono ?_
  rintro e W1 ⟨rfl, hW1⟩
  have hz : w'.heap.size + 4 = W1.heap.size := by rw [hW1]; simp
  have hb1 : Below w'.heap.size w' W1 := by rw [hW1]; exact Bl.next (Bl.next (Bl.next (Bl.box _ _) (Bl.box _ _)) (Bl.box _ _)) (Bl.box _ _)
  have s1 : W1.cell? ⟨w'.heap.size + 1 + 1, 1, none⟩ = some (.int .i64 hi) := by rw [hW1]; simp [go_sem]
  have s2 : W1.cell? ⟨w'.heap.size + 1 + 1 + 1, 0, none⟩ = some (.slice a l.length c) := by rw [hW1]; simp [go_sem]
  have m1 : Blk W1 w'.heap.size (zeros [.int .i64 0, .int .i64 0] l.length) 56 := by rw [hW1]; exact (((Blk.new w' _ _).alloc _).alloc _).alloc _
  have m2 : Blk W1 (w'.heap.size + 1) [.slice (some ⟨w'.heap.size, 0, none⟩) l.length l.length] 79 := by
    rw [hW1]; have := ((Blk.new (w'.alloc (.cells (zeros [.int .i64 0, .int .i64 0] l.length).toArray 56)) [.slice (some ⟨w'.heap.size, 0, none⟩) l.length l.length] 79).alloc (.cells #[.int .i64 lo, .int .i64 hi] 56)).alloc (.cells #[.slice a l.length c] 27)
    simpa using this
  have hB1 := Bl.next hB hb1
  have hl1 := hl'.below hb1
  have hst := each_stops (w'.heap.size + 1 + 1) (w'.heap.size + 1 + 1 + 1) (fun b => b < W1.heap.size ∧ b ≠ w'.heap.size) hi (.slice a l.length c) l W1 (fun b h => h.1) (by omega) (by omega) (by omega) hl1 ?hvp s1 s2
  case hvp => exact fun h b off n' cap e => by have := HB h e; have := hB1.size; exact ⟨by omega, by omega⟩
  clear hW1 s1 s2 hmk
  go_wp2_with fail
  refine wp_range (g := .tmp 17) (gf := 72) (lb := #[.pointer (some ⟨w'.heap.size + 1 + 1, 0, none⟩), .pointer (some ⟨w'.heap.size + 1 + 1 + 1, 0, none⟩)]) rfl (enters_of Try.func72 (by kernel_rfl) rfl) _ (fun b h => h.1) hst (fun _ => rfl)
    (fun pre W => (Blk W w'.heap.size (outC hi l pre) 56 ∧ Blk W (w'.heap.size + 1) [.slice (some ⟨w'.heap.size, 0, none⟩) l.length l.length] 79) ∧ (Below w.heap.size w W ∧ W1.heap.size ≤ W.heap.size))
    (fun _ _ _ => False) ?own (fun _ _ _ _ _ h _ _ => h) ⟨⟨m1, m2⟩, hB1, Nat.le_refl _⟩
    (fun x a' W => ∃ Bx, W1.heap.size ≤ Bx ∧ Blk W Bx [.int .i64 (partAt hi l (qOf x)).1, .int .i64 (partAt hi l (qOf x)).2] 56 ∧
      a' = { tmps := #[.agg #[.int .i64 lo, .int .i64 hi], .slice a l.length c, .pointer (some ⟨w.heap.size, 0, none⟩), undef, .slice none 0 0, .pointer (some ⟨w'.heap.size + 1, 0, none⟩), .int .i64 (qOf x : Int), .pointer (some ⟨Bx, 0, none⟩), .agg #[.int .i64 lo, .int .i64 hi], .slice a l.length c, .int .i64 (fitsI lo hi l), .bool false, .slice a l.length c, .int .i64 l.length, .slice (some ⟨w'.heap.size, 0, none⟩) l.length l.length, .agg #[.int .i64 lo, .int .i64 hi], .slice a l.length c, .func (.func 72) #[] #[.pointer (some ⟨w'.heap.size + 1 + 1, 0, none⟩), .pointer (some ⟨w'.heap.size + 1 + 1 + 1, 0, none⟩)], .int .i64 (qOf x : Int), spanV (partAt hi l (qOf x)).1 (partAt hi l (qOf x)).2, undef, undef, undef, undef, undef], defers := [] }) ?ownax ?assign ?body ?done ?stop
  case own => exact OwnFrom.and (Own.from (fun s A B row hs hg hr => ⟨hs.1.turn hg hr, hs.2.turn hg hr⟩) _) (OwnFrom.and (ownFrom_below (Nat.le_refl _) hB1.size) ownFrom_size)
  case ownax => exact fun x a' => Own.from (fun s A B row hs hg hr => by obtain ⟨Bx, h1, h2, h3⟩ := hs; exact ⟨Bx, h1, h2.turn hg hr, h3⟩) _
  case assign =>
    rintro lr pre x W K ⟨⟨h1, h2⟩, hbW, hsz⟩ hK
    unfold encE
    gi_wp2
    exact hK _ _ ((KeepsOthers.alloc _ _).from _) (Keeps.of_below (Bl.box W _) (fun b hb => by have := hb.1; omega)) ⟨⟨h1.alloc _, h2.alloc _⟩, Bl.next hbW (Bl.box _ _), by simp; omega⟩ ⟨W.heap.size, hsz, Blk.new W _ _, rfl⟩
  case body =>
    rintro lr pre x a' W hlr ⟨⟨h1, h2⟩, hbW, hsz⟩ ⟨Bx, hBx, hx, rfl⟩ hlt
    have cx0 := hx.cell (i := 0) rfl
    have cx1 := hx.cell (i := 1) rfl
    have ci := h2.cell (i := 0) rfl
    have hq : qOf x < l.length := by have := x.2; simp only [qOf]; omega
    have hol := outC_length hi l pre
    obtain ⟨u0, hu0⟩ : ∃ u0, (outC hi l pre)[qOf x * 2]? = some u0 := ⟨_, List.getElem?_eq_getElem (by omega)⟩
    obtain ⟨u1, hu1⟩ : ∃ u1, (outC hi l pre)[qOf x * 2 + 1]? = some u1 := ⟨_, List.getElem?_eq_getElem (by omega)⟩
    have cu0 := h1.cell hu0
    have cu1 := h1.cell hu1
    have fu0 := h1.frozen (qOf x * 2)
    have fu1 := h1.frozen (qOf x * 2 + 1)
    clear hu0 hu1 hol
    gi_wp2
    refine ⟨((KeepsOthers.setCell _ _ _).trans (KeepsOthers.setCell _ _ _)).from _, ((Keeps.refl _ W).setCell (by simp) _).setCell (by simp) _, ⟨by rw [outC_snoc]; exact (h1.set _ _).set _ _, (h2.other (by simp) _).other (by simp) _⟩, (hbW.setCell (Nat.le_of_lt z0) _).setCell (Nat.le_of_lt z0) _, by simpa [World.setCell] using hsz⟩
  case done =>
    rintro D xs W hD rfl ⟨⟨h1, h2⟩, hbW, hsz⟩ hK
    have ci := h2.cell (i := 0) rfl
    have hlt : D < W.heap.size := (Array.getElem?_eq_some_iff.1 hK).1
    rw [outC_all] at h1
    have hs : (splitL hi l).length = l.length := by simp [splitL]
    have hR : Pairs (W.putObj D (.deferred none)) (.slice (some ⟨w'.heap.size, 0, none⟩) l.length l.length) (splitL hi l) := by
      have h1' := h1.put hK rfl (.deferred none)
      exact .inr ⟨_, 0, l.length, by rw [hs], by omega, by unfold maxLen; omega, fun j x hj => by rw [Nat.zero_add]; exact h1'.cell hj⟩
    have HR := Lib.hid hR
    have HR2 := Lib.hid (h1.put hK rfl (.deferred none))
    clear hR h1 hs
    go_wp2_with fail
    refine ⟨by simp, .inl ⟨_, _, rfl, run_takeDeferred hK, _, results_tmp rfl _ _ _, ?_⟩⟩
    have e : splitR lo hi l = splitL hi l := by simp [splitR, HF.out]
    rw [e]
    exact ⟨_, rfl, below_put hbW (by have := hB1.size; omega) hlt _, HR.out, fun _ => ⟨_, rfl, hB.size, HR2.out⟩⟩
  case stop => exact fun _ _ _ _ _ _ h _ => h.elim
theorem span_split (lo hi : Int) (v : Value) (l : List Int) (w : World) (hlen : l.length ≤ 1000000) (hl : Ints w v l) :
    Calls Try.prog 32 #[spanV lo hi, v] w (RetS (fun w' r => Pairs w' r (splitR lo hi l)) w) :=
  (span_split2 lo hi v l w hlen hl).mono fun e w' ⟨r, h1, h2, h3, _⟩ => ⟨r, h1, h2, h3⟩
end Go.Proofs.Ytoiblgeheblddaa

