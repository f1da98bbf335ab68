/- The plain law of a scan: what visitF finds, in plain Lean. -/
import Derived.Test.YtoiblgeheblddaaWalkG
namespace Go.Proofs.Ytoiblgeheblddaa
open Go.RowKit Go.Extern.Stop Go.Stop Go.Extern
set_option linter.unusedVariables false
theorem loopW_ind {V : List Int → Int → Int → Int → WS → WS} {l : List UInt8} {way : List Int} {no hi : Int} {s : WS} (P : Nat → WS → Prop) (h0 : P 0 s) :
    ∀ n, (∀ i t, i < n → t.dry = false → P i t → P (i + 1) (childW V way no ((nodV l no).getD i []) (partAt hi (nodK l no) i) t)) → (∀ i t, i < n → t.dry = true → P i t → P (i + 1) t) → P n (loopW V l way no hi n s)
  | 0, _, _ => h0
  | n + 1, hs, hd => by
    have ih := loopW_ind P h0 n (fun i t hi => hs i t (by omega)) (fun i t hi => hd i t (by omega))
    rw [loopW_succ]
    unfold roundW
    split
    · rename_i h; exact hd n _ (by omega) h ih
    · rename_i h; exact hs n _ (by omega) (by simpa using h) ih
theorem rootE_no (v : List UInt8) : rootE v = 0 ∨ rootE v = 2 ∨ rootE v = 7 := by
  unfold rootE; split
  · split <;> simp
  · simp
theorem keysErr_no (l : List UInt8) : ∀ n, keysErr l n = 0 ∨ keysErr l n = 2 ∨ keysErr l n = 8
  | 0 => .inl rfl
  | n + 1 => by
    rw [keysErr]
    split
    · exact keysErr_no l n
    · unfold keyE; split
      · simp
      · split <;> simp
theorem nodeErr_no (l : List UInt8) (no tree : Int) : nodeErr l no tree ≠ 12 := by
  unfold nodeErr
  split
  · unfold nodeTE
    split
    · split <;> decide
    · unfold nodeE
      split
      · split
        · rcases keysErr_no (inB l no) (nodC (inB l no)) with h | h | h <;> rw [h] <;> decide
        · decide
      · decide
  · unfold inE
    split
    · unfold openE
      repeat' split
      all_goals decide
    · decide
theorem lookE_no (l : List UInt8) (way : List Int) (no tree lo hi deep : Int) : lookE l way no tree lo hi deep ≠ 12 := by
  unfold lookE
  split
  · decide
  · split
    · decide
    · split
      · exact nodeErr_no _ _ _
      · split
        · decide
        · split <;> decide
theorem maxG_18 (t : Int) (b : Bool) : maxG t b ≤ 18 := by
  unfold maxG maxN
  repeat' split
  all_goals omega
theorem nodeE_shape {l : List UInt8} (h : nodeE l = 0) : shapeB l = true := by
  unfold nodeE at h
  split at h
  · assumption
  · cases h
theorem nodeTE_zero {l : List UInt8} {tree : Int} (h : nodeTE l tree = 0) : nodeE l = 0 := by
  unfold nodeTE at h
  split at h
  · assumption
  · assumption
theorem nodeErr_TE {l : List UInt8} {no tree : Int} (h : nodeErr l no tree = 0) : inE l 2 no = 0 ∧ nodeTE (inB l no) tree = 0 := by
  unfold nodeErr at h
  split at h
  · exact ⟨by assumption, h⟩
  · rename_i q; exact absurd h q
theorem look_node {l : List UInt8} {way : List Int} {no tree lo hi deep : Int} (h : lookE l way no tree lo hi deep = 0) : nodeErr l no tree = 0 ∧ fitsI lo hi (nodK l no) = 0 ∧ nodC (inB l no) ≤ 18 := by
  unfold lookE at h
  split at h
  · cases h
  · split at h
    · cases h
    · split at h
      · rename_i q; exact absurd h q
      · rename_i q
        split at h
        · cases h
        · rename_i q2
          have q1 : nodeErr l no tree = 0 := Decidable.not_not.1 q
          exact ⟨q1, Decidable.not_not.1 q2, Nat.le_trans (node_shapeP (nodeE_shape (nodeTE_zero (nodeErr_TE q1).2))) (maxG_18 _ _)⟩
theorem fits_sort {lo hi : Int} {L : List Int} (h : fitsI lo hi L = 0) : rightB lo hi = true ∧ SortP L ∧ ∀ k ∈ L, lo ≤ k ∧ k < hi := by
  unfold fitsI at h
  split at h
  · split at h
    · split at h
      · exact ⟨by assumption, by assumption, by assumption⟩
      · cases h
    · cases h
  · cases h
/-- an entry stands in its block: at the first place of its key -/
def InBlk (l : List UInt8) (tree : Int) (x : Ent) : Prop :=
  nodeErr l x.2.2 tree = 0 ∧ nodL (inB l x.2.2) = true ∧ ∃ k, k < nodC (inB l x.2.2) ∧ (nodK l x.2.2).getD k 0 = x.1 ∧ (nodV l x.2.2).getD k [] = x.2.1 ∧ ∀ j, j < k → (nodK l x.2.2).getD j 0 ≠ x.1
/-- keys that rise, all within a span -/
def Rise (lo hi : Int) (es : List Ent) : Prop := es.Pairwise (fun x y => x.1 < y.1) ∧ ∀ x ∈ es, lo ≤ x.1 ∧ x.1 < hi
theorem Rise.nil (lo hi : Int) : Rise lo hi [] := ⟨.nil, fun _ h => by cases h⟩
theorem Rise.app {lo mi hi : Int} {a b : List Ent} (h : Rise lo mi a) (k : Rise mi hi b) (h1 : lo ≤ mi) (h2 : mi ≤ hi) : Rise lo hi (a ++ b) := by
  refine ⟨List.pairwise_append.2 ⟨h.1, k.1, fun x hx y hy => ?_⟩, fun x hx => ?_⟩
  · have := (h.2 x hx).2; have := (k.2 y hy).1; omega
  · rcases List.mem_append.1 hx with q | q
    · have := h.2 x q; omega
    · have := k.2 x q; omega
/-- what came between the states s and t of a visit of no below way, of the span lo hi -/
structure Went (l : List UInt8) (tree fuel : Int) (hd : Option Int) (lo hi : Int) (s t : WS) (es : List Ent) (fs : List (List Int × Int)) : Prop where
  esE : t.es = s.es ++ es
  fsE : t.fs = s.fs ++ fs
  rise : Rise lo hi es
  inb : ∀ x ∈ es, InBlk l tree x
  flt : ∀ f ∈ fs, f.1.head? = hd ∧ f.1 ≠ [] ∧ f.2 ≠ 0
  dry : t.dry = true ↔ s.dry = true ∨ ∃ f ∈ fs, f.2 = 12
  fuelE : t.dry = true → s.dry = true ∨ fuel ≤ t.looked
  look : s.looked ≤ fuel.toNat → t.looked ≤ fuel.toNat
  more : s.looked ≤ t.looked
  blks : t.bs.length + s.looked ≤ s.bs.length + t.looked
theorem Went.refl (l : List UInt8) (tree fuel : Int) (hd : Option Int) (lo hi : Int) (s : WS) : Went l tree fuel hd lo hi s s [] [] :=
  ⟨by simp, by simp, Rise.nil _ _, by simp, by simp, by simp, fun h => .inl h, fun h => h, Nat.le_refl _, Nat.le_refl _⟩
theorem Went.trans {l : List UInt8} {tree fuel : Int} {hd : Option Int} {lo mi hi : Int} {s t u : WS} {es es2 : List Ent} {fs fs2 : List (List Int × Int)} (h : Went l tree fuel hd lo mi s t es fs) (k : Went l tree fuel hd mi hi t u es2 fs2) (h1 : lo ≤ mi) (h2 : mi ≤ hi) :
    Went l tree fuel hd lo hi s u (es ++ es2) (fs ++ fs2) where
  esE := by rw [k.esE, h.esE, List.append_assoc]
  fsE := by rw [k.fsE, h.fsE, List.append_assoc]
  rise := h.rise.app k.rise h1 h2
  inb x hx := by
    rcases List.mem_append.1 hx with q | q
    · exact h.inb x q
    · exact k.inb x q
  flt f hf := by
    rcases List.mem_append.1 hf with q | q
    · exact h.flt f q
    · exact k.flt f q
  dry := by
    rw [k.dry, h.dry]
    constructor
    · rintro ((q | ⟨f, q1, q2⟩) | ⟨f, q1, q2⟩)
      · exact .inl q
      · exact .inr ⟨f, List.mem_append_left _ q1, q2⟩
      · exact .inr ⟨f, List.mem_append_right _ q1, q2⟩
    · rintro (q | ⟨f, q1, q2⟩)
      · exact .inl (.inl q)
      · rcases List.mem_append.1 q1 with q | q
        · exact .inl (.inr ⟨f, q, q2⟩)
        · exact .inr ⟨f, q, q2⟩
  fuelE h0 := by
    rcases k.fuelE h0 with q | q
    · rcases h.fuelE q with q | q
      · exact .inl q
      · exact .inr (by have := k.more; omega)
    · exact .inr q
  look h0 := k.look (h.look h0)
  more := Nat.le_trans h.more k.more
  blks := by have := h.blks; have := k.blks; omega
theorem Went.wide {l : List UInt8} {tree fuel : Int} {hd : Option Int} {lo hi lo2 hi2 : Int} {s t : WS} {es : List Ent} {fs : List (List Int × Int)} (h : Went l tree fuel hd lo hi s t es fs) (h1 : lo2 ≤ lo) (h2 : hi ≤ hi2) : Went l tree fuel hd lo2 hi2 s t es fs :=
  { h with rise := ⟨h.rise.1, fun x hx => by have := h.rise.2 x hx; omega⟩ }
theorem Went.note (l : List UInt8) (tree fuel : Int) {hd : Option Int} (lo hi : Int) (way : List Int) (no c : Int) (s : WS) (hc : c ≠ 0) (hc2 : c ≠ 12) (hh : (way ++ [no]).head? = hd) : Went l tree fuel hd lo hi s (noteW way [no] c s) [] [(way ++ [no], c)] :=
  ⟨by simp [noteW], by simp [noteW], Rise.nil _ _, by simp, (fun f hf => by rw [List.mem_singleton.1 hf]; exact ⟨hh, by simp, hc⟩), by simp [noteW, hc2], fun h => .inl (by simpa [noteW] using h), fun h => by simpa [noteW] using h, Nat.le_refl _, Nat.le_refl _⟩
theorem partAt_le {lo hi : Int} {L : List Int} (hf : fitsI lo hi L = 0) {i : Nat} (h : i < L.length) : lo ≤ (partAt hi L i).1 ∧ (partAt hi L i).1 ≤ (partAt hi L i).2 ∧ (partAt hi L i).2 ≤ hi ∧ (i + 1 < L.length → (partAt hi L i).2 = (partAt hi L (i + 1)).1) := by
  obtain ⟨h1, h2, h3⟩ := fits_sort hf
  have h4 := h3 L[i] (List.getElem_mem _)
  unfold partAt
  simp only [List.getElem?_eq_getElem h, Option.getD_some]
  by_cases hn : i + 1 < L.length
  · have h5 := h3 L[i + 1] (List.getElem_mem _)
    have h6 := SortP.lt h2 (i + 1) i (by omega) hn
    simp only [List.getElem?_eq_getElem h, List.getElem?_eq_getElem hn, Option.getD_some] at h6 ⊢
    exact ⟨h4.1, by omega, by omega, fun _ => trivial⟩
  · rw [List.getElem?_eq_none (by omega)]
    simp only [Option.getD_none]
    exact ⟨h4.1, by omega, Int.le_refl _, fun h => absurd h hn⟩
theorem leaf_rise {lo hi : Int} {l : List UInt8} {no : Int} (hf : fitsI lo hi (nodK l no) = 0) (Vs : List (List UInt8)) : Rise lo hi (leafL (nodK l no) Vs no (nodC (inB l no))) := by
  obtain ⟨h1, h2, h3⟩ := fits_sort hf
  have hl : (nodK l no).length = nodC (inB l no) := by simp [nodK, keysI]
  refine ⟨?_, ?_⟩
  · unfold leafL
    rw [List.pairwise_map]
    refine List.Pairwise.imp_of_mem (R := fun a b => a < b) ?_ List.pairwise_lt_range
    intro a b ha hb hab
    have := SortP.lt h2 b a hab (by rw [hl]; simpa using hb)
    simpa [List.getD] using this
  · intro x hx
    unfold leafL at hx
    obtain ⟨j, hj, rfl⟩ := List.mem_map.1 hx
    have hj : j < (nodK l no).length := by rw [hl]; simpa using hj
    have := h3 (nodK l no)[j] (List.getElem_mem _)
    simpa [List.getD, hj] using this
theorem leaf_inb {lo hi : Int} {l : List UInt8} {no tree : Int} (hn : nodeErr l no tree = 0) (hl : nodL (inB l no) = true) (hf : fitsI lo hi (nodK l no) = 0) : ∀ x ∈ leafL (nodK l no) (nodV l no) no (nodC (inB l no)), InBlk l tree x := by
  intro x hx
  obtain ⟨h1, h2, h3⟩ := fits_sort hf
  have hk : (nodK l no).length = nodC (inB l no) := by simp [nodK, keysI]
  unfold leafL at hx
  obtain ⟨j, hj, rfl⟩ := List.mem_map.1 hx
  have hj : j < nodC (inB l no) := by simpa using hj
  refine ⟨hn, hl, j, hj, rfl, rfl, fun i hi => ?_⟩
  have := SortP.lt h2 j i hi (by rw [hk]; exact hj)
  simp only [List.getD] 
  omega
theorem visitF_went (l : List UInt8) (tree fuel : Int) : ∀ (d : Nat) (way : List Int) (no lo hi : Int) (s : WS), s.dry = false → ∃ es fs, Went l tree fuel (way ++ [no]).head? lo hi s (visitF l tree fuel d way no lo hi s) es fs
  | 0, way, no, lo, hi, s, _ => ⟨[], [], Went.refl _ _ _ _ _ _ _⟩
  | d + 1, way, no, lo, hi, s, hs => by
    unfold visitF
    split
    · rename_i hf
      exact ⟨[], [(way ++ [no], 12)], by simp [noteW], by simp [noteW], Rise.nil _ _, by simp, by simp, by simp, fun _ => .inr hf, fun h => h, Nat.le_refl _, Nat.le_refl _⟩
    · rename_i hf
      have hlk : s.looked + 1 ≤ fuel.toNat := by omega
      split
      · rename_i he
        have := Went.note l tree fuel lo hi way no _ { s with looked := s.looked + 1 } he (lookE_no _ _ _ _ _ _ _) rfl
        exact ⟨_, _, this.esE, this.fsE, this.rise, this.inb, this.flt, this.dry, fun h => by simp [noteW, hs] at h, fun _ => hlk, by simp [noteW], by simp [noteW]⟩
      · rename_i he
        have he : lookE l way no tree lo hi s.deep = 0 := Decidable.not_not.1 he
        obtain ⟨hn, hft, hc⟩ := look_node he
        split
        · rename_i hl
          exact ⟨_, [], rfl, by simp, leaf_rise hft _, leaf_inb hn hl hft, by simp, by simp [hs], fun h => by simp [hs] at h, fun _ => hlk, by simp, by simp; omega⟩
        · have hk : (nodK l no).length = nodC (inB l no) := by simp [nodK, keysI]
          have hfs := fits_sort hft
          have hrt : lo ≤ hi := by have := hfs.1; unfold rightB at this; simp at this; omega
          have hloop := loopW_ind (V := visitF l tree fuel d) (l := l) (way := way) (no := no) (hi := hi) (s := { s with looked := s.looked + 1, bs := s.bs ++ [no] })
            (fun i t => ∃ es fs, Went l tree fuel (way ++ [no]).head? lo (if i = 0 then lo else (partAt hi (nodK l no) (i - 1)).2) { s with looked := s.looked + 1, bs := s.bs ++ [no] } t es fs)
            ⟨[], [], Went.refl _ _ _ _ _ _ _⟩ (nodC (inB l no)) ?_ ?_
          · obtain ⟨es, fs, q⟩ := hloop
            refine ⟨es, fs, q.esE, q.fsE, ?_, q.inb, q.flt, q.dry, fun h => ?_, fun _ => q.look hlk, by have := q.more; simp only at this; omega, by have := q.blks; simp at this; omega⟩
            · refine ⟨q.rise.1, fun x hx => ?_⟩
              have := q.rise.2 x hx
              split at this
              · omega
              · rename_i h0
                have := (partAt_le hft (i := nodC (inB l no) - 1) (by rw [hk]; omega)).2.2.1
                omega
            · rcases q.fuelE h with q2 | q2
              · exact .inl q2
              · exact .inr q2
          · rintro i t hi0 htd ⟨es, fs, q⟩
            have hp := partAt_le hft (i := i) (by rw [hk]; exact hi0)
            have hmid : lo ≤ (if i = 0 then lo else (partAt hi (nodK l no) (i - 1)).2) ∧ (if i = 0 then lo else (partAt hi (nodK l no) (i - 1)).2) ≤ (partAt hi (nodK l no) i).1 := by
              split
              · exact ⟨Int.le_refl _, hp.1⟩
              · rename_i h0
                have hp2 := partAt_le hft (i := i - 1) (by rw [hk]; omega)
                have := hp2.2.2.2 (by rw [hk]; omega)
                rw [show i - 1 + 1 = i by omega] at this
                omega
            have q' := q.wide (Int.le_refl lo) hmid.2
            rw [if_neg (by omega), Nat.add_sub_cancel]
            unfold childW
            split
            · obtain ⟨es2, fs2, r⟩ := visitF_went l tree fuel d (way ++ [no]) (rootN ((nodV l no).getD i []) : Int) (partAt hi (nodK l no) i).1 (partAt hi (nodK l no) i).2 t htd
              have hh : ((way ++ [no]) ++ [(rootN ((nodV l no).getD i []) : Int)]).head? = (way ++ [no]).head? := by cases way <;> rfl
              rw [hh] at r
              exact ⟨_, _, q'.trans r (by omega) hp.2.1⟩
            · rename_i hre
              have r := Went.note l tree fuel (partAt hi (nodK l no) i).1 (partAt hi (nodK l no) i).2 way no (rootE ((nodV l no).getD i [])) t hre (by rcases rootE_no ((nodV l no).getD i []) with h | h | h <;> rw [h] <;> decide) rfl
              exact ⟨_, _, q'.trans r (by omega) hp.2.1⟩
          · rintro i t hi0 htd ⟨es, fs, q⟩
            have hp := partAt_le hft (i := i) (by rw [hk]; exact hi0)
            rw [if_neg (by omega), Nat.add_sub_cancel]
            refine ⟨es, fs, q.wide (Int.le_refl _) ?_⟩
            split
            · omega
            · rename_i h0
              have hp2 := partAt_le hft (i := i - 1) (by rw [hk]; omega)
              have := hp2.2.2.2 (by rw [hk]; omega)
              rw [show i - 1 + 1 = i by omega] at this
              omega
/-- how much is found, by the nodes looked at -/
theorem visitF_count (l : List UInt8) (tree fuel : Int) : ∀ (d : Nat) (way : List Int) (no lo hi : Int) (s : WS), s.dry = false →
    (visitF l tree fuel d way no lo hi s).fs.length + (visitF l tree fuel d way no lo hi s).es.length + 18 * s.looked ≤ s.fs.length + s.es.length + 18 * (visitF l tree fuel d way no lo hi s).looked + (if (visitF l tree fuel d way no lo hi s).dry = true then 1 else 0)
  | 0, way, no, lo, hi, s, hs => by simp [visitF, hs]
  | d + 1, way, no, lo, hi, s, hs => by
    unfold visitF
    split
    · simp [noteW]; omega
    · split
      · simp [noteW, hs]; omega
      · rename_i he
        have he : lookE l way no tree lo hi s.deep = 0 := Decidable.not_not.1 he
        obtain ⟨hn, hft, hc⟩ := look_node he
        split
        · simp [leafL_len, hs]; omega
        · have hloop := loopW_ind (V := visitF l tree fuel d) (l := l) (way := way) (no := no) (hi := hi) (s := { s with looked := s.looked + 1, bs := s.bs ++ [no] })
            (fun i t => t.fs.length + t.es.length + 18 * (s.looked + 1) ≤ s.fs.length + s.es.length + i + 18 * t.looked + (if t.dry = true then 1 else 0)) (by simp [hs]) (nodC (inB l no)) ?_ ?_
          · omega
          · intro i t hi0 htd q
            rw [htd] at q
            unfold childW
            split
            · have := visitF_count l tree fuel d (way ++ [no]) (rootN ((nodV l no).getD i []) : Int) (partAt hi (nodK l no) i).1 (partAt hi (nodK l no) i).2 t htd
              simp at q
              omega
            · simp [noteW, htd] at q ⊢; omega
          · intro i t hi0 htd q; omega
/-- once the fuel is used up it stays so -/
theorem visitF_dry (l : List UInt8) (tree fuel : Int) (V : List Int → Int → Int → Int → WS → WS) (way : List Int) (no hi : Int) (s : WS) {k n : Nat} (hk : k ≤ n) (h : (loopW V l way no hi n s).dry = false) : (loopW V l way no hi k s).dry = false := by
  cases q : (loopW V l way no hi k s).dry with
  | false => rfl
  | true => rw [loopW_dry V l way no hi s hk q] at h; rw [← h, q]
/-- with more fuel a scan that had enough is the same -/
theorem visitF_more (l : List UInt8) (tree fuel fuel2 : Int) (hff : fuel ≤ fuel2) : ∀ (d : Nat) (way : List Int) (no lo hi : Int) (s : WS), (visitF l tree fuel d way no lo hi s).dry = false → visitF l tree fuel2 d way no lo hi s = visitF l tree fuel d way no lo hi s
  | 0, _, _, _, _, _, _ => rfl
  | d + 1, way, no, lo, hi, s, h => by
    unfold visitF at h ⊢
    by_cases hf : fuel ≤ s.looked
    · rw [if_pos hf] at h; cases h
    · rw [if_neg hf] at h
      rw [if_neg (show ¬ fuel2 ≤ s.looked by omega), if_neg hf]
      by_cases he : lookE l way no tree lo hi s.deep ≠ 0
      · rw [if_pos he, if_pos he]
      · rw [if_neg he] at h
        rw [if_neg he, if_neg he]
        by_cases hl : nodL (inB l no) = true
        · rw [if_pos hl, if_pos hl]
        · rw [if_neg hl] at h
          rw [if_neg hl, if_neg hl]
          have key : ∀ k, k ≤ nodC (inB l no) → loopW (visitF l tree fuel2 d) l way no hi k { s with looked := s.looked + 1, bs := s.bs ++ [no] } = loopW (visitF l tree fuel d) l way no hi k { s with looked := s.looked + 1, bs := s.bs ++ [no] } := by
            intro k
            induction k with
            | zero => intro _; rfl
            | succ k ih =>
              intro hk
              have h1 := visitF_dry l tree fuel _ way no hi _ hk h
              have h0 := visitF_dry l tree fuel _ way no hi _ (show k ≤ nodC (inB l no) by omega) h
              rw [loopW_succ, loopW_succ, ih (by omega)]
              rw [loopW_succ] at h1
              unfold roundW at h1 ⊢
              rw [if_neg (by rw [h0]; decide)] at h1
              rw [if_neg (by rw [h0]; decide), if_neg (by rw [h0]; decide)]
              unfold childW at h1 ⊢
              split
              · rename_i hr
                rw [if_pos hr] at h1
                exact visitF_more l tree fuel fuel2 hff d _ _ _ _ _ h1
              · rfl
          exact key _ (Nat.le_refl _)
end Go.Proofs.Ytoiblgeheblddaa

