/- Blocks written at other numbers before a tree or behind it: the same bytes. What plot.Data wrote, chart.Data reads back, plainly. Of law 23: made, lives. The statement ChartBack, walked. -/
import Derived.Test.YthlakkdgcgkcdaaGreatMg5
namespace Go.Proofs.YthlakkdgcgkcdaaGreat
open Go.RowKit Go.Extern.Stop Go.Stop Go.Extern
set_option linter.unusedVariables false
attribute [local irreducible] wpList wpAnyH Code.wp Oper.wp Go

set_option maxRecDepth 100000 in
theorem putB_comm {l x y : List UInt8} {a b : Nat} (ha : a + x.length ≤ l.length) (hb : b + y.length ≤ l.length) (hd : a + x.length ≤ b ∨ b + y.length ≤ a) : putB (putB l a x) b y = putB (putB l b y) a x := by
  have e1 := putB_len ha
  have e2 := putB_len hb
  apply ext_getD
  · rw [putB_len (by rw [e1]; exact hb), e1, putB_len (by rw [e2]; exact ha), e2]
  · intro j hj
    rw [putB_get (by rw [e1]; exact hb), putB_get ha, putB_get (by rw [e2]; exact ha), putB_get hb]
    by_cases p : a ≤ j ∧ j < a + x.length
    · rw [if_neg (by omega), if_pos p, if_pos p]
    · rw [if_neg p, if_neg p]
set_option maxRecDepth 100000 in
theorem levB_put {t : Int} {leaf : Bool} {m v : Nat} {l : List Ent} {q k : Nat} {bs x : List UInt8} (E : EntsOk v l) (h1 : 1 ≤ t) (h2 : t ≤ 5) (hm : maxN t leaf = m) (hv : widN t leaf = v) (hl : leaf = false → 1 ≤ l.length) (hx : x.length = 256) (hk : (k + 1) * 256 ≤ bs.length) (j : Nat) :
    j ≤ ovN l.length m → (q + j) * 256 ≤ bs.length → (k < q ∨ q + j ≤ k) → putB (levB t leaf m v l q bs j) (k * 256) x = levB t leaf m v l q (putB bs (k * 256) x) j := by
  induction j with
  | zero => exact fun _ _ _ => by simp only [levB]
  | succ j ih =>
    intro hj hq hd
    have ih := ih (by omega) (by omega) (by omega)
    have a1 := (levB_laid (t := t) (leaf := leaf) (m := m) (v := v) (l := l) (q := q) (bs := bs) E h1 h2 hm hv hl j (by omega) (by omega)).1
    have hlen := nodB_len (chunk_ok E h1 h2 hm hv hl (show j < ovN l.length m by omega))
    have hsl : (sealB 2 ((q + j : Nat) : Int) (nodB t leaf m v (chunkE l m j))).length = 256 := sealB_len (by rw [hlen]; decide)
    rw [levB_succ, levB_succ, ← ih]
    exact putB_comm (by rw [hsl, a1]; omega) (by rw [hx, a1]; omega) (by rw [hsl, hx]; omega)
set_option maxRecDepth 100000 in
theorem treeUp_put {t : Int} (h1 : 1 ≤ t) (h2 : t ≤ 5) {k : Nat} {x : List UInt8} (hx : x.length = 256) (n : Nat) : ∀ (u : List Ent) (q : Nat) (bs : List UInt8), u.length = n → 1 ≤ n → EntsOk 4 u → (q + ((levs n).sum - n)) * 256 ≤ bs.length → (k + 1) * 256 ≤ bs.length → (k < q ∨ q + ((levs n).sum - n) ≤ k) →
    treeUp t u q (putB bs (k * 256) x) = ((treeUp t u q bs).1, putB (treeUp t u q bs).2 (k * 256) x) := by
  induction n using Nat.strongRecOn with
  | _ n ih =>
    intro u q bs hn h1n E hq hk hd
    subst hn
    by_cases h : u.length ≤ 1
    · rw [treeUp_one h, treeUp_one h]
    · have h18 := ov18 (x := u.length) (by omega)
      have hp := ovN_pos u.length 18
      have hlm : (levs u.length).sum = u.length + (levs (ovN u.length 18)).sum := by rw [levs_more h]; rfl
      have hg := levs_ge (ovN u.length 18)
      rw [treeUp_more h, treeUp_more h]
      obtain ⟨a1, a2, a3⟩ := levB_laid (t := t) (leaf := false) (m := 18) (v := 4) (l := u) (q := q) (bs := bs) E h1 h2 rfl rfl (fun _ => by omega) (ovN u.length 18) (Nat.le_refl _) (by omega)
      rw [← levB_put (leaf := false) (m := 18) (v := 4) E h1 h2 rfl rfl (fun _ => by omega) hx hk (ovN u.length 18) (Nat.le_refl _) (by omega) (by omega)]
      exact ih (ovN u.length 18) (by omega) (upE u 18 q (ovN u.length 18)) (q + ovN u.length 18) _ (upE_len _ _ _ _) hp (up_ok E (by decide)) (by rw [a1]; omega) (by rw [a1]; exact hk) (by omega)
set_option maxRecDepth 100000 in
/-- a block outside of a tree may be written before it is laid, or behind it -/
theorem treeB_put {t : Int} {l : List Ent} {q k : Nat} {bs x : List UInt8} (h1 : 1 ≤ t) (h2 : t ≤ 5) (E : EntsOk (widN t true) l) (hx : x.length = 256) (hq : (q + nodN t l.length) * 256 ≤ bs.length) (hk : (k + 1) * 256 ≤ bs.length) (hd : k < q ∨ q + nodN t l.length ≤ k) :
    treeB t l q (putB bs (k * 256) x) = ((treeB t l q bs).1, putB (treeB t l q bs).2 (k * 256) x) := by
  obtain ⟨m, hm⟩ : ∃ m, maxN t true = m := ⟨_, rfl⟩
  have hmb := maxN_pos t true
  have hop := ovN_pos l.length m
  have hg := levs_ge (ovN l.length m)
  have hN : nodN t l.length = (levs (ovN l.length m)).sum := by unfold nodN levL; rw [hm]
  rw [hm] at hmb
  rw [hN] at hq hd
  unfold treeB
  rw [hm]
  obtain ⟨a1, a2, a3⟩ := levB_laid (t := t) (leaf := true) (m := m) (v := widN t true) (l := l) (q := q) (bs := bs) E h1 h2 hm rfl (fun h => by cases h) (ovN l.length m) (Nat.le_refl _) (by omega)
  rw [← levB_put E h1 h2 hm rfl (fun h => by cases h) hx hk (ovN l.length m) (Nat.le_refl _) (by omega) (by omega)]
  exact treeUp_put h1 h2 hx (ovN l.length m) (upE l m q (ovN l.length m)) (q + ovN l.length m) _ (upE_len _ _ _ _) hop (up_ok E hmb.1) (by rw [a1]; omega) (by rw [a1]; exact hk) (by omega)
set_option maxRecDepth 100000 in
theorem treeB_keep {t : Int} {l : List Ent} {q : Nat} {bs : List UInt8} (h1 : 1 ≤ t) (h2 : t ≤ 5) (E : EntsOk (widN t true) l) (hq : (q + nodN t l.length) * 256 ≤ bs.length) : (treeB t l q bs).2.length = bs.length ∧ ∀ x, x < q → blkB (treeB t l q bs).2 x = blkB bs x := by
  obtain ⟨m, hm⟩ : ∃ m, maxN t true = m := ⟨_, rfl⟩
  have hmb := maxN_pos t true
  have hop := ovN_pos l.length m
  have hg := levs_ge (ovN l.length m)
  have hN : nodN t l.length = (levs (ovN l.length m)).sum := by unfold nodN levL; rw [hm]
  rw [hm] at hmb
  rw [hN] at hq
  unfold treeB
  rw [hm]
  obtain ⟨a1, a2, a3⟩ := levB_laid (t := t) (leaf := true) (m := m) (v := widN t true) (l := l) (q := q) (bs := bs) E h1 h2 hm rfl (fun h => by cases h) (ovN l.length m) (Nat.le_refl _) (by omega)
  obtain ⟨b1, b2⟩ := treeUp_keep (t := t) h1 h2 (ovN l.length m) (upE l m q (ovN l.length m)) (q + ovN l.length m) (levB t true m (widN t true) l q bs (ovN l.length m)) (upE_len _ _ _ _) hop (up_ok E hmb.1) (by rw [a1]; omega)
  exact ⟨by rw [b1, a1], fun x hx => by rw [b2 x (by omega), a3 x hx]⟩
set_option maxRecDepth 100000 in
theorem levB_tree {t s : Int} {leaf : Bool} {m v : Nat} {l e : List Ent} {q p : Nat} {bs : List UInt8} (E : EntsOk v l) (h1 : 1 ≤ t) (h2 : t ≤ 5) (hm : maxN t leaf = m) (hv : widN t leaf = v) (hl : leaf = false → 1 ≤ l.length) (s1 : 1 ≤ s) (s2 : s ≤ 5) (Es : EntsOk (widN s true) e) (hp : (p + nodN s e.length) * 256 ≤ bs.length) (j : Nat) :
    j ≤ ovN l.length m → (q + j) * 256 ≤ bs.length → p + nodN s e.length ≤ q → treeB s e p (levB t leaf m v l q bs j) = ((treeB s e p bs).1, levB t leaf m v l q (treeB s e p bs).2 j) := by
  induction j with
  | zero => exact fun _ _ _ => by simp only [levB]
  | succ j ih =>
    intro hj hq hd
    have ih := ih (by omega) (by omega) hd
    have a1 := (levB_laid (t := t) (leaf := leaf) (m := m) (v := v) (l := l) (q := q) (bs := bs) E h1 h2 hm hv hl j (by omega) (by omega)).1
    have hlen := nodB_len (chunk_ok E h1 h2 hm hv hl (show j < ovN l.length m by omega))
    have hsl : (sealB 2 ((q + j : Nat) : Int) (nodB t leaf m v (chunkE l m j))).length = 256 := sealB_len (by rw [hlen]; decide)
    rw [levB_succ, levB_succ, treeB_put s1 s2 Es hsl (by rw [a1]; exact hp) (by rw [a1]; omega) (by omega), ih]
set_option maxRecDepth 100000 in
theorem treeUp_tree {t s : Int} {e : List Ent} {p : Nat} (h1 : 1 ≤ t) (h2 : t ≤ 5) (s1 : 1 ≤ s) (s2 : s ≤ 5) (Es : EntsOk (widN s true) e) (n : Nat) : ∀ (u : List Ent) (q : Nat) (bs : List UInt8), u.length = n → 1 ≤ n → EntsOk 4 u → (q + ((levs n).sum - n)) * 256 ≤ bs.length → (p + nodN s e.length) * 256 ≤ bs.length → p + nodN s e.length ≤ q →
    treeB s e p (treeUp t u q bs).2 = ((treeB s e p bs).1, (treeUp t u q (treeB s e p bs).2).2) := by
  induction n using Nat.strongRecOn with
  | _ n ih =>
    intro u q bs hn h1n E hq hp hd
    subst hn
    by_cases h : u.length ≤ 1
    · rw [treeUp_one h, treeUp_one h]
    · have h18 := ov18 (x := u.length) (by omega)
      have hpo := ovN_pos u.length 18
      have hlm : (levs u.length).sum = u.length + (levs (ovN u.length 18)).sum := by rw [levs_more h]; rfl
      have hg := levs_ge (ovN u.length 18)
      obtain ⟨a1, a2, a3⟩ := levB_laid (t := t) (leaf := false) (m := 18) (v := 4) (l := u) (q := q) (bs := bs) E h1 h2 rfl rfl (fun _ => by omega) (ovN u.length 18) (Nat.le_refl _) (by omega)
      have hl := levB_tree (leaf := false) (m := 18) (v := 4) (p := p) E h1 h2 rfl rfl (fun _ => by omega) s1 s2 Es hp (ovN u.length 18) (Nat.le_refl _) (by omega) hd
      rw [treeUp_more h, treeUp_more h, ih (ovN u.length 18) (by omega) (upE u 18 q (ovN u.length 18)) (q + ovN u.length 18) _ (upE_len _ _ _ _) hpo (up_ok E (by decide)) (by rw [a1]; omega) (by rw [a1]; exact hp) (by omega), hl]
set_option maxRecDepth 100000 in
/-- a tree below another one may be laid behind it -/
theorem treeB_tree {t s : Int} {l e : List Ent} {q p : Nat} {bs : List UInt8} (h1 : 1 ≤ t) (h2 : t ≤ 5) (E : EntsOk (widN t true) l) (s1 : 1 ≤ s) (s2 : s ≤ 5) (Es : EntsOk (widN s true) e) (hq : (q + nodN t l.length) * 256 ≤ bs.length) (hd : p + nodN s e.length ≤ q) :
    treeB s e p (treeB t l q bs).2 = ((treeB s e p bs).1, (treeB t l q (treeB s e p bs).2).2) := by
  obtain ⟨m, hm⟩ : ∃ m, maxN t true = m := ⟨_, rfl⟩
  have hmb := maxN_pos t true
  have hop := ovN_pos l.length m
  have hg := levs_ge (ovN l.length m)
  have hN : nodN t l.length = (levs (ovN l.length m)).sum := by unfold nodN levL; rw [hm]
  rw [hm] at hmb
  rw [hN] at hq
  have hpb : (p + nodN s e.length) * 256 ≤ bs.length := by omega
  obtain ⟨a1, a2, a3⟩ := levB_laid (t := t) (leaf := true) (m := m) (v := widN t true) (l := l) (q := q) (bs := bs) E h1 h2 hm rfl (fun h => by cases h) (ovN l.length m) (Nat.le_refl _) (by omega)
  have hl := levB_tree (p := p) E h1 h2 hm rfl (fun h => by cases h) s1 s2 Es hpb (ovN l.length m) (Nat.le_refl _) (by omega) hd
  have hu := treeUp_tree (p := p) h1 h2 s1 s2 Es (ovN l.length m) (upE l m q (ovN l.length m)) (q + ovN l.length m) (levB t true m (widN t true) l q bs (ovN l.length m)) (upE_len _ _ _ _) hop (up_ok E hmb.1) (by rw [a1]; omega) (by rw [a1]; exact hpb) (by omega)
  rw [show (treeB t l q bs) = treeUp t (upE l m q (ovN l.length m)) (q + ovN l.length m) (levB t true m (widN t true) l q bs (ovN l.length m)) from by unfold treeB; rw [hm], hu, hl]
  rw [show (treeB t l q (treeB s e p bs).2) = treeUp t (upE l m q (ovN l.length m)) (q + ovN l.length m) (levB t true m (widN t true) l q (treeB s e p bs).2 (ovN l.length m)) from by unfold treeB; rw [hm]]
end Go.Proofs.YthlakkdgcgkcdaaGreat
namespace Go.Proofs.YthlakkdgcgkcdaaGreat
open Go.RowKit Go.Extern.Stop Go.Stop Go.Extern
set_option linter.unusedVariables false
attribute [local irreducible] wpList wpAnyH Code.wp Oper.wp Go

theorem overK_mem {l : List Int} {k : Nat} {x : Ent} : x ∈ overK l k ↔ ∃ j : Nat, j < k ∧ 3 ≤ l.getD j 0 ∧ x = ((j : Int), leB (l.getD j 0) 4, 0) := by
  unfold overK
  simp only [List.mem_flatMap, List.mem_range]
  constructor
  · rintro ⟨j, hj, hx⟩
    unfold ovX at hx
    split at hx
    · rename_i h3
      exact ⟨j, hj, h3, List.mem_singleton.1 hx⟩
    · cases hx
  · rintro ⟨j, hj, h3, rfl⟩
    exact ⟨j, hj, by unfold ovX; rw [if_pos h3]; exact List.mem_singleton.2 rfl⟩
theorem cnt_val {n : Int} (h0 : 3 ≤ n) (h : n ≤ 2147483647) : readE cntP (leB n 4) = 0 ∧ readV cntP (leB n 4) = [n.toNat] := by
  obtain ⟨m, rfl⟩ : ∃ m : Nat, n = (m : Int) := ⟨n.toNat, by omega⟩
  have e : rawN (leB (m : Int) 4) 0 4 = m := by
    have h := rawN_leB (a := []) (b := []) (m := m) (w := 4) (by omega)
    simpa using h
  have hr : rawsL cntP (leB (m : Int) 4) = [m] := by
    show unpL (leB (m : Int) 4) 0 [4] = _
    simp only [unpL]
    rw [e]
  have h1 : readE cntP (leB (m : Int) 4) = 0 := by
    have hk : readOk cntP (leB (m : Int) 4) = true := by
      unfold readOk
      rw [hr, show cntP.length = 1 from rfl]
      unfold allIn
      rw [show List.range 1 = [0] from rfl]
      simp [inP, cntP]
      omega
    unfold readE
    rw [if_pos (by rw [leB_len]; rfl), if_pos hk]
  exact ⟨h1, by unfold readV; rw [if_pos h1, hr]; simp⟩
theorem mn3_ge {n : Int} : mn3 n = 3 ↔ 3 ≤ n := by unfold mn3; split <;> omega
theorem mn3_lt {n : Int} (h : n < 3) : mn3 n = n := if_pos h
theorem smallL_get (l : List Int) (k : Nat) : (smallL l).getD k 0 = mn3 (l.getD k 0) := by
  by_cases h : k < l.length
  · simp [smallL, List.getD, h]
  · simp [smallL, List.getD, Nat.le_of_not_lt h, mn3]
theorem kv_get {E O : List Ent} (hE : E.map kvE = O.map kvE) : E.length = O.length ∧ ∀ i, i < O.length → (E.getD i entD).1 = (O.getD i entD).1 ∧ (E.getD i entD).2.1 = (O.getD i entD).2.1 := by
  have hl : E.length = O.length := by simpa using congrArg List.length hE
  refine ⟨hl, fun i hi => ?_⟩
  have h := congrArg (fun x => x[i]?) hE
  simp only [List.getElem?_map, List.getElem?_eq_getElem hi, List.getElem?_eq_getElem (show i < E.length by omega), Option.map_some, Option.some.injEq] at h
  rw [ents_getD hi, ents_getD (by omega)]
  have h2 : (E[i].1, E[i].2.1) = (O[i].1, O[i].2.1) := h
  exact ⟨(Prod.mk.inj h2).1, (Prod.mk.inj h2).2⟩
set_option maxRecDepth 100000 in
theorem join_back {l : List Int} {E : List Ent} (hc : ∀ k, k < l.length → cntOk (l.getD k 0)) (hE : E.map kvE = (overK l l.length).map kvE) : joinO (smallL l) E = (0, l) := by
  obtain ⟨hl, hg⟩ := kv_get hE
  have hO := overK_ok l l.length
  have hm : ∀ i, i < E.length → ∃ k : Nat, k < l.length ∧ 3 ≤ l.getD k 0 ∧ jKey E i = (k : Int) ∧ (E.getD i entD).2.1 = leB (l.getD k 0) 4 := fun i hi => by
    rw [hl] at hi
    obtain ⟨k, hk, h3, e⟩ := overK_mem.1 (List.getElem_mem hi)
    have := hg i hi
    rw [ents_getD (l := overK l l.length) hi, e] at this
    exact ⟨k, hk, h3, this.1, this.2⟩
  have hv : ∀ i, i < E.length → ∀ k : Nat, jKey E i = (k : Int) → jVal E i = l.getD k 0 ∧ 3 ≤ l.getD k 0 ∧ readE cntP (E.getD i entD).2.1 = 0 := fun i hi k hk => by
    obtain ⟨k2, h1, h2, h3, h4⟩ := hm i hi
    obtain rfl : k = k2 := by omega
    have hb := hc k h1
    unfold cntOk at hb
    have hv := cnt_val h2 hb.2
    unfold jVal
    rw [h4, hv.2]
    refine ⟨?_, h2, hv.1⟩
    show (((l.getD k 0).toNat : Nat) : Int) = _
    omega
  have hok : jOk (smallL l) E E.length := fun i hi => by
    obtain ⟨k, h1, h2, h3, h4⟩ := hm i hi
    have hlast : jLast E i < jKey E i := by
      unfold jLast
      split
      · omega
      · rename_i h0
        have hp := List.pairwise_iff_getElem.1 hO.1 (i - 1) i (by omega) (by omega) (by omega)
        have a := (hg i (by omega)).1
        have b := (hg (i - 1) (by omega)).1
        rw [ents_getD (l := overK l l.length) (by omega)] at a b
        unfold jKey
        rw [a, b]; exact hp
    unfold jBad
    rw [if_neg (by omega), if_neg (fun q => q (by rw [h3, Int.toNat_natCast, smallL_get]; exact mn3_ge.2 h2))]
    exact (hv i hi k h3).2.2
  have hex : ∀ k : Nat, k < l.length → (smallL l).getD k 0 = 3 → ∃ j, j < E.length ∧ jKey E j = (k : Int) := fun k hk h3 => by
    rw [smallL_get] at h3
    obtain ⟨j, hj, e⟩ := List.getElem_of_mem (overK_mem.2 ⟨k, hk, mn3_ge.1 h3, rfl⟩)
    have a := (hg j hj).1
    rw [ents_getD (l := overK l l.length) hj, e] at a
    exact ⟨j, by omega, a⟩
  rw [joinO_all hok, if_pos (open_nil fun k hk h3 => hex k (by rwa [smallL_len] at hk) h3)]
  congr 1
  apply List.ext_getElem (by rw [outL_len, smallL_len])
  intro k h1 h2
  have e := outL_get (E := E) (i := E.length) (show k < (smallL l).length by rwa [outL_len] at h1)
  rw [show (outL (smallL l) E E.length).getD k 0 = (outL (smallL l) E E.length)[k] from by simp [List.getD, h1]] at e
  rw [e, show l[k] = l.getD k 0 from by simp [List.getD, h2]]
  by_cases h3 : (smallL l).getD k 0 = 3
  · obtain ⟨j, hj, hjk⟩ := hex k h2 h3
    unfold jOut
    rw [jFind_some hj hjk fun m hmj => by have := jOk_inj hok m j hmj hj; omega]
    exact (hv j hj k hjk).1
  · rw [jOut_not hok h3, smallL_get]
    rw [smallL_get, mn3_ge] at h3
    exact mn3_lt (by omega)
theorem chunksI_flat (l : List Int) : ∀ j, (chunksI l j).flatten = l.take (j * 960)
  | 0 => by simp [chunksI]
  | j + 1 => by
    rw [chunksI_succ, List.flatten_append, chunksI_flat l j, Nat.add_mul, Nat.one_mul, List.take_add]
    simp [chunkI]
theorem chunksI_all (l : List Int) : (chunksI l (bmN l.length)).flatten = l := by
  rw [chunksI_flat, List.take_of_length_le (by unfold bmN; omega)]
set_option maxRecDepth 100000 in
theorem cntsB_same {L : List (List Int)} {q : Nat} {bs : List UInt8} : ∀ n, (q + n) * 256 ≤ bs.length → (cntsB L q bs n).length = bs.length
  | 0, _ => rfl
  | n + 1, h => by
    have ih := cntsB_same (L := L) (q := q) (bs := bs) n (by omega)
    have hx : (sealB 3 ((q + n : Nat) : Int) (bitsB (L.getD n []))).length = 256 := sealB_len (by unfold bitsB; rw [bitsT_len]; decide)
    show (putB (cntsB L q bs n) ((q + n) * 256) (sealB 3 ((q + n : Nat) : Int) (bitsB (L.getD n [])))).length = _
    rw [putB_len (by rw [hx, ih]; omega), ih]
set_option maxRecDepth 100000 in
theorem data_parts {l : List Int} {q N : Nat} {bs : List UInt8} {fuel : Int} (hN : bmN l.length = N) (hq : 1 ≤ q) (hl : l.length ≤ 30000) (h4 : q + plotN l ≤ 14400) (hb : (q + plotN l) * 256 ≤ bs.length) (hfu : (plotN l : Int) ≤ fuel) :
    FoundW ((slotsE (chunksI (smallL l) N) q N).map kvE) (nodN 4 N) (levL 4 N).length (scanW (plotB l q bs).2.2 (plotB l q bs).1 4 fuel) ∧
    FoundW ((overK l l.length).map kvE) (nodN 5 (overK l l.length).length) (levL 5 (overK l l.length).length).length (scanW (plotB l q bs).2.2 (plotB l q bs).2.1 5 fuel) ∧
    (plotB l q bs).2.2.length = bs.length ∧
    ∀ i, i < N → blkB (plotB l q bs).2.2 (q + i) = sealB 3 ((q + i : Nat) : Int) (bitsB (chunkI (smallL l) i)) := by
  have hNl : N ≤ 40 := by unfold bmN at hN; omega
  have hol := overK_len l l.length
  obtain ⟨L, hL⟩ : ∃ L, chunksI (smallL l) N = L := ⟨_, rfl⟩
  obtain ⟨O, hO⟩ : ∃ O, overK l l.length = O := ⟨_, rfl⟩
  have hpn : plotN l = N + nodN 4 N + nodN 5 O.length := by unfold plotN; rw [hN, hO]
  have ES : EntsOk (widN 4 true) (slotsE L q N) := slots_ents _ _ _ (by omega)
  have EO : EntsOk (widN 5 true) O := hO ▸ over_ents _ _ (by omega)
  rw [hO] at hol
  have hcl := cntsB_same (L := L) (q := q) (bs := bs) N (by omega)
  have hP : plotB l q bs = ((treeB 4 (slotsE L q N) (q + N) (cntsB L q bs N)).1, (treeB 5 O (q + N + nodN 4 N) (treeB 4 (slotsE L q N) (q + N) (cntsB L q bs N)).2).1, (treeB 5 O (q + N + nodN 4 N) (treeB 4 (slotsE L q N) (q + N) (cntsB L q bs N)).2).2) := by
    unfold plotB; simp only [hN, hL, hO]
  have hT := treeB_tree (t := 5) (s := 4) (l := O) (e := slotsE L q N) (q := q + N + nodN 4 N) (p := q + N) (bs := cntsB L q bs N) (by decide) (by decide) EO (by decide) (by decide) ES (by rw [hcl]; omega) (by rw [slotsE_len]; exact Nat.le_refl _)
  have k4 := treeB_keep (t := 4) (l := slotsE L q N) (q := q + N) (bs := cntsB L q bs N) (by decide) (by decide) ES (by rw [hcl, slotsE_len]; omega)
  have k5 := treeB_keep (t := 5) (l := O) (q := q + N + nodN 4 N) (bs := (treeB 4 (slotsE L q N) (q + N) (cntsB L q bs N)).2) (by decide) (by decide) EO (by rw [k4.1, hcl]; omega)
  have k6 := treeB_keep (t := 5) (l := O) (q := q + N + nodN 4 N) (bs := cntsB L q bs N) (by decide) (by decide) EO (by rw [hcl]; omega)
  have s4 := treeB_scan (t := 4) (fuel := fuel) (l := slotsE L q N) (q := q + N) (bs := (treeB 5 O (q + N + nodN 4 N) (cntsB L q bs N)).2) (by decide) (by decide) ES (by rw [slotsE_len]; omega) (by omega) (by rw [slotsE_len, k6.1, hcl]; omega) (by rw [slotsE_len]; omega) (by rw [slotsE_len]; omega)
  have s5 := treeB_scan (t := 5) (fuel := fuel) (l := O) (q := q + N + nodN 4 N) (bs := (treeB 4 (slotsE L q N) (q + N) (cntsB L q bs N)).2) (by decide) (by decide) EO (by omega) (by omega) (by rw [k4.1, hcl]; omega) (by omega) (by omega)
  rw [hT, slotsE_len] at s4
  rw [hP, hL, hO]
  refine ⟨s4, s5, by show (treeB 5 O _ _).2.length = _; rw [k5.1, k4.1, hcl], fun i hi => ?_⟩
  show blkB (treeB 5 O _ _).2 _ = _
  rw [k5.2 _ (by omega), k4.2 _ (by omega), cntsB_blk (m := bs.length / 256) (by rw [hcl]) rfl (by omega) hi, ← hL, chunksI_get hi]
theorem small_chunk {l : List Int} (hc : ∀ k, k < l.length → cntOk (l.getD k 0)) (i : Nat) : Small (chunkI (smallL l) i) ∧ (chunkI (smallL l) i).length ≤ 960 := ⟨chunk_small (small_ok hc) i, by rw [chunkI_len]; exact Nat.min_le_left _ _⟩
theorem bitsB_I {l : List Int} (h : Small l) (hl : l.length ≤ 960) : bitI (bitsB l) l.length = l := by
  apply List.ext_getElem (by rw [bitI_len])
  intro i h1 h2
  have e := bitsB_at h (i := i) (by omega)
  rw [show l.getD i 0 = l[i] from by simp [List.getD, h2]] at e
  simp [bitI, bitsL, e]
/-- a block of counts that is there, read -/
theorem data_bits {F : List UInt8} {k : Nat} {c : List Int} (hk : k < F.length / 256) (h4 : k < 14400) (hb : blkB F k = sealB 3 (k : Int) (bitsB c)) (hs : Small c) (hl : c.length ≤ 960) : bitsErr F (k : Int) = 0 ∧ bitR F (k : Int) = c := by
  have h := seal_in (kind := 3) (by decide) (by decide) hk h4 (by unfold bitsB; rw [bitsT_len]) hb
  have he : bitsErr F (k : Int) = 0 := by unfold bitsErr; rw [if_pos h.1, h.2, if_pos (bitsB_ok hs hl)]
  refine ⟨he, ?_⟩
  unfold bitR
  rw [if_pos he, h.2, bitsB_cnt hl, bitsB_I hs hl]
theorem slotX_plc {L : List (List Int)} {q i : Nat} {e : Ent} (h0 : 1 ≤ q) (h1 : q + i ≤ 14399) (hL : (L.getD i []).length ≤ 960) (he : e.2.1 = (slotX L q i).2.1) : plcE e = ((q + i, freeN (L.getD i []), firstN (L.getD i [])), e.2.2, 0) := by
  have h2 : freeN (L.getD i []) ≤ 960 := Nat.le_trans (freeK_le _ _) hL
  have h3 : firstN (L.getD i []) ≤ 960 := Nat.le_trans (firstN_le _) hL
  have e2 : (slotX L q i).2.1 = slB (q + i, freeN (L.getD i []), firstN (L.getD i [])) := rfl
  unfold plcE slotT
  rw [he, e2, slB_ok (x := (q + i, freeN (L.getD i []), firstN (L.getD i []))) (by simp only; omega) h1 h2 h3, slB_val (x := (q + i, freeN (L.getD i []), firstN (L.getD i []))) (by simp only; omega) h1 h2 h3]
  rfl
theorem allO_ne {l : List UInt8} {X : List Plc} {over n fuel : Int} {i : Nat} (hi : i < X.length) (h : (oneI l X n i).2.1 ≠ 0) : (allO l X over n fuel).2.1 ≠ 0 := by
  unfold allO
  cases hf : (List.range X.length).find? (fun i => (oneI l X n i).2.1 != 0) with
  | some j => simpa using List.find?_some hf
  | none =>
    have := List.find?_eq_none.1 hf i (List.mem_range.2 hi)
    simp at this
    exact absurd this h
set_option maxRecDepth 100000 in
/-- counts of data blocks that were written, read with any number -/
theorem data_back {l : List Int} {q : Nat} {bs : List UInt8} {fuel : Int} (hq : 1 ≤ q) (hs : splitE l = 0) (hl : l.length ≤ 30000) (h4 : q + plotN l ≤ 14400) (hb : (q + plotN l) * 256 ≤ bs.length) (hfu : (plotN l : Int) ≤ fuel) :
    dataO (plotB l q bs).2.2 (plotB l q bs).1 (plotB l q bs).2.1 (l.length : Int) fuel = ([], 0, l) ∧ (dataO (plotB l q bs).2.2 (plotB l q bs).1 (plotB l q bs).2.1 ((l.length : Int) + 1) fuel).2.1 ≠ 0 := by
  obtain ⟨N, hN⟩ : ∃ N, bmN l.length = N := ⟨_, rfl⟩
  have hc := (splitE_ok hs).2
  obtain ⟨⟨es, bl, he, -, hw4⟩, ⟨es5, bl5, he5, -, hw5⟩, hF, hB⟩ := data_parts hN hq hl h4 hb hfu
  have hpn : plotN l = N + nodN 4 N + nodN 5 (overK l l.length).length := by unfold plotN; rw [hN]
  obtain ⟨hel, hg⟩ := kv_get he
  rw [slotsE_len] at hel hg
  obtain ⟨F, hFe⟩ : ∃ F, (plotB l q bs).2.2 = F := ⟨_, rfl⟩
  rw [hFe] at hw4 hw5 hF hB ⊢
  have hk : keysOk es = true := keysOk_ok fun i hi => by
    rw [(hg i (by omega)).1, slotsE_get (by omega)]; rfl
  have hX : ∀ i, i < N → (es.map plcE).getD i plc0 = ((q + i, freeN (chunkI (smallL l) i), firstN (chunkI (smallL l) i)), (es.getD i entD).2.2, 0) := fun i hi => by
    have hcl := small_chunk hc i
    have hp := slotX_plc (L := chunksI (smallL l) N) (q := q) (i := i) (e := es.getD i entD) hq (by omega) (by rw [chunksI_get hi]; exact hcl.2) (by rw [(hg i hi).2, slotsE_get hi])
    rw [chunksI_get hi] at hp
    rw [← hp]
    simp [List.getD, show i < es.length by omega]
  have hR : ∀ i, i < N → bitsErr F ((q + i : Nat) : Int) = 0 ∧ bitR F ((q + i : Nat) : Int) = chunkI (smallL l) i := fun i hi => by
    have hcl := small_chunk hc i
    exact data_bits (by rw [hF]; omega) (by omega) (hB i hi) hcl.1 hcl.2
  have h1 : ∀ (n : Int) (i : Nat), i < N → oneI F (es.map plcE) n i = if ((chunkI (smallL l) i).length : Int) ≠ wantI n i then ([(es.getD i entD).2.2], 7, []) else ([], 0, chunkI (smallL l) i) := fun n i hi => by
    unfold oneI oneO
    rw [hX i hi]
    simp only
    rw [(hR i hi).1, (hR i hi).2]
    simp
  have hch : ∀ i, (chunkI (smallL l) i).length = min 960 (l.length - i * 960) := fun i => by rw [chunkI_len, smallL_len]
  have hes : (scanW F (plotB l q bs).1 4 fuel).es = es ∧ (scanW F (plotB l q bs).1 4 fuel).fs = [] := by rw [hw4]; exact ⟨rfl, rfl⟩
  have hes5 : (scanW F (plotB l q bs).2.1 5 fuel).es = es5 ∧ (scanW F (plotB l q bs).2.1 5 fuel).fs = [] := by rw [hw5]; exact ⟨rfl, rfl⟩
  have hml : (es.map plcE).length = N := by rw [List.length_map, hel]
  have hNb : N * 960 < l.length + 960 ∧ l.length ≤ N * 960 := by unfold bmN at hN; omega
  constructor
  · unfold dataO
    rw [if_neg (fun q => q hes.2), hes.1, if_neg (fun q => q (by rw [hel]; unfold bmI; rw [Int.toNat_natCast, hN])), if_neg (by rw [hk]; decide)]
    rw [allO_ok fun i hi => by
      rw [hml] at hi
      rw [h1 _ i hi, if_neg (fun q => q (by rw [hch]; unfold wantI; split <;> omega))]]
    have ha : allL F (es.map plcE) (l.length : Int) (es.map plcE).length = chunksI (smallL l) N := by
      rw [hml]
      unfold allL chunksI
      apply List.map_congr_left
      intro i hi
      have hi := List.mem_range.1 hi
      rw [hX i hi]
      exact (hR i hi).2
    have hfl : (chunksI (smallL l) N).flatten = smallL l := by
      have := chunksI_all (smallL l)
      rwa [smallL_len, hN] at this
    have hj := join_back hc he5
    rw [ha, restO_ok hes5.2 (by rw [hfl, hes5.1, hj]), hfl, hes5.1, hj]
  · unfold dataO
    rw [if_neg (fun q => q hes.2), hes.1]
    by_cases hb2 : es.length = bmI ((l.length : Int) + 1)
    · rw [if_neg (fun q => q hb2), if_neg (by rw [hk]; decide)]
      have hb3 : N = bmN (l.length + 1) := by rw [← hel, hb2]; unfold bmI; congr 1
      unfold bmN at hb3
      refine allO_ne (i := N - 1) (by rw [hml]; omega) ?_
      rw [h1 _ _ (by omega), if_pos]
      · show (7 : Int) ≠ 0; decide
      · rw [hch]; unfold wantI; split <;> omega
    · rw [if_pos hb2]; simp
end Go.Proofs.YthlakkdgcgkcdaaGreat
namespace Go.Proofs.YthlakkdgcgkcdaaGreat
open Go.RowKit Go.Extern.Stop Go.Stop Go.Extern
set_option linter.unusedVariables false
attribute [local irreducible] wpList wpAnyH Code.wp Oper.wp Go

set_option maxRecDepth 100000 in
set_option maxHeartbeats 1000000 in
theorem law23_made (N f : Nat) (w : World) (hN : N ≤ 14400) (h1 : 1 ≤ f) (h2 : f ≤ N) :
    Calls Tryz.prog 7 #[.int .i64 (↑N : Int), .int .i64 (↑f : Int)] w (RetS (fun w' r => ∃ ba b g c pa ca, r = .pointer (some ⟨ba, 0, none⟩) ∧ AlC w.heap.size ba (256 * N) c ca f (N - f) ∧ Al w.heap.size ba b g (256 * N) c pa ca f (N - f) 0 (List.replicate (256 * N) (0 : UInt8)) w') w) := by
 refine zin 17 Tryz.func7 ?_
 refine xwm 8 (256 * (↑N : Int)) (↑(256 * N) : Int) ?_
 refine xmk 0 fun _ _ _ _ zJ zQ zo zx zy zK => op_make (256 * N) (.int .u8 0) 1 1 ((List.replicate (256 * N) (0 : UInt8)).map bv) zo zx zy Tryz.underlying53 (by kernel_rfl) rfl (by omega) (by omega) (zerosB (256 * N)) fun b1 W1 n1 => ?_
 refine zK _ _ ?_
 have o1 := own_of_blk (size := 1) (n := (256 * N)) n1.blk (n1.ge (Below.refl w.heap.size _)) (by rw [List.length_map, List.length_replicate, Nat.mul_one]) (by unfold maxLen; omega)
 refine xc 0 (args := #[.slice (some ⟨b1, 0, none⟩) (256 * N) (256 * N)]) (image_OfN (some ⟨b1, 0, none⟩) (256 * N) (256 * N) (256 * N) (List.replicate (256 * N) (0 : UInt8)) _ List.length_replicate (by omega) (bys_of (own_sl o1) List.length_replicate) (by omega) (Nat.le_refl _)) ?_
 rintro _ W2 ⟨_, rfl, hb2, bi, pi, ci, rfl, gi, ki, hd⟩
 have hd'1 := own_mono hd n1.below.size
 rw [List.take_of_length_le (by rw [List.length_replicate]; omega)] at hd'1
 obtain ⟨g, rfl, hci⟩ := own_someN hd'1 (by omega)
 have hB := Bl.next n1.below hb2
 have hs9 := hB.size
 refine xc 1 (args := #[.pointer (some ⟨bi, 0, none⟩), .int .i64 (↑f : Int)]) (alloc_NewN bi (some ⟨g, 0, none⟩) (256 * N) ci f (N - f) (f : Int) rfl (by omega) _ ki (by omega) h1 (by omega)) ?_
 rintro _ W3 ⟨_, rfl, hb3, ba, pa, ca, rfl, ga, ka, ho⟩
 replace ga := Nat.le_trans hs9 ga
 have ki'1 := ki.below hb3
 have hd'2 := own_below hd'1 hb3
 have ho'1 := own_mono ho hB.size
 have hA : Al w.heap.size ba bi g (256 * N) ci pa ca f (N - f) 0 (List.replicate (256 * N) (0 : UInt8)) _ := ⟨ka, ki'1, hd'2, ho'1⟩
 have hca : N - f ≤ ca := by
   rcases Nat.eq_zero_or_pos (N - f) with q | q
   · omega
   · exact own_cap ho'1 q
 have hC : AlC w.heap.size ba (256 * N) ci ca f (N - f) := ⟨by omega, hci, hca, by omega, ga⟩
 have hB'1 := Bl.next hB hb3
 exact xe 14 (.pointer (some ⟨ba, 0, none⟩)) ⟨_, rfl, hB'1, _, _, _, _, _, _, rfl, hC, hA⟩
theorem madeN23 (N f : Nat) (Ni fi : Int) (hNi : Ni = (N : Int)) (hfi : fi = (f : Int)) (w : World) (hN : N ≤ 14400) (h1 : 1 ≤ f) (h2 : f ≤ N) :
    Calls Tryz.prog 7 #[.int .i64 Ni, .int .i64 fi] w (RetS (fun w' r => ∃ ba b g c pa ca, r = .pointer (some ⟨ba, 0, none⟩) ∧ AlC w.heap.size ba (256 * N) c ca f (N - f) ∧ Al w.heap.size ba b g (256 * N) c pa ca f (N - f) 0 (List.replicate (256 * N) (0 : UInt8)) w') w) := by
  subst hNi hfi; exact law23_made N f w hN h1 h2
/-- chart.Data where what it tells is known -/
theorem chart_DataK (Bi b : Nat) (pi : Option Addr) (ni ci : Nat) (l : List UInt8) (index over n fuel : Int) (m : Nat) (L : List Int) (w : World) (hI : ImgR Bi b pi ni ci l w) (hn : n ≤ 1099511627776) (hfu : fuel ≤ 1000) (hO : dataO l index over n fuel = ([], 0, L)) (hm : L.length = m) :
    Calls Tryz.prog 9 #[.pointer (some ⟨b, 0, none⟩), .int .i64 index, .int .i64 over, .int .i64 n, .int .i64 fuel] w (RetS (fun w' r => ∃ p c, r = .tuple #[.slice p m c, .nilIface] ∧ w'.ownsRow w.heap.size 3 1 (.slice p m c) m (L.map (Value.int .i64))) w) := by
  subst hm
  refine (chart_Data Bi b pi ni ci l index over n fuel w hI hn hfu).mono ?_
  rintro e W q
  rw [hO] at q
  rcases q with ⟨h, _⟩ | ⟨h, p, c, rfl, hb, ho⟩
  · exact absurd rfl h
  · exact ⟨_, rfl, hb, p, c, rfl, ho⟩
theorem chart_DataN (Bi b : Nat) (pi : Option Addr) (ni ci : Nat) (l : List UInt8) (index over n fuel : Int) (w : World) (hI : ImgR Bi b pi ni ci l w) (hn : n ≤ 1099511627776) (hfu : fuel ≤ 1000) (hO : (dataO l index over n fuel).2.1 ≠ 0) :
    Calls Tryz.prog 9 #[.pointer (some ⟨b, 0, none⟩), .int .i64 index, .int .i64 over, .int .i64 n, .int .i64 fuel] w (RetS (fun w' r => ∃ ty x, r = .tuple #[.slice none 0 0, .iface ty x]) w) := by
  refine (chart_Data Bi b pi ni ci l index over n fuel w hI hn hfu).mono ?_
  rintro e W q
  rcases q with ⟨h, ty, x, rfl, hb, _⟩ | ⟨h, _⟩
  · exact ⟨_, rfl, hb, ty, x, rfl⟩
  · exact absurd h hO
theorem ref01_SameM (a b : Option Addr) (n ca cb : Nat) (l : List Int) (w : World) (hn : l.length = n) (ha : Sl w (.slice a n ca) n (l.map (Value.int .i64))) (hb : Sl w (.slice b n cb) n (l.map (Value.int .i64))) : Calls Tryz.prog 11 #[.slice a n ca, .slice b n cb] w (Ret (.bool true) w) := by
  subst hn; exact ref01_Same a b ca cb l w ha hb
def l052 : List Int := [0, 5, 2]
theorem l052_split : splitE l052 = 0 := splitE_good (by decide) fun k hk => by
  have hk' : k < 3 := hk
  obtain rfl | rfl | rfl : k = 0 ∨ k = 1 ∨ k = 2 := by omega
  all_goals decide
theorem nodN4_1 {n : Nat} (h : n ≤ 9) : nodN 4 n = 1 := by
  unfold nodN levL
  have hp := ovN_pos n 9
  rw [show maxN 4 true = 9 from rfl, show ovN n 9 = 1 from by unfold ovN at hp ⊢; omega, levs_one (by decide)]; rfl
theorem levs_le {x : Nat} (h : x ≤ 34) : (levs x).sum ≤ 37 := by
  by_cases h1 : x ≤ 1
  · rw [levs_one h1]; simp; omega
  · rw [levs_more h1, List.sum_cons]
    have h2 : ovN x 18 ≤ 2 := by unfold ovN; omega
    by_cases h3 : ovN x 18 ≤ 1
    · rw [levs_one h3]; simp; omega
    · rw [levs_more h3, List.sum_cons, show ovN (ovN x 18) 18 = 1 from by unfold ovN at h2 h3 ⊢; omega, levs_one (by decide)]
      simp; omega
theorem nodN5_le {n : Nat} (h : n ≤ 600) : nodN 5 n ≤ 37 := by
  unfold nodN levL
  rw [show maxN 5 true = 18 from rfl]
  exact levs_le (by unfold ovN; omega)
theorem plotN_le {l : List Int} (h : l.length ≤ 3000) (ho : (overK l l.length).length ≤ 600) : plotN l ≤ 42 := by
  have hb : bmN l.length ≤ 4 := by unfold bmN; omega
  have h4 := nodN4_1 (n := bmN l.length) (by omega)
  have h5 := nodN5_le ho
  unfold plotN; omega
theorem l052_N : plotN l052 ≤ 8 := by
  have h5 : nodN 5 (overK l052 l052.length).length = 1 := by
    unfold nodN levL
    rw [show maxN 5 true = 18 from rfl, show (overK l052 l052.length).length = 1 from by decide, levs_one (by decide)]; rfl
  have hb : bmN l052.length = 1 := by decide
  unfold plotN
  rw [hb, nodN4_1 (by decide), h5]; decide
set_option maxRecDepth 100000 in
set_option maxHeartbeats 4000000 in
theorem lives23 (w : World) :
    Calls Tryz.prog 5 #[] w (Ret (.bool true) w) := by
 refine zin 36 Tryz.func5 ?_
 have hs1 : w.heap.size ≤ (w).heap.size := (Below.refl w.heap.size _).size
 refine xc 7 (args := #[.int .i64 9, .int .i64 1]) (madeN23 9 1 (9) (1) (by simp) rfl _ (by decide) (by decide) (by decide)) ?_
 rintro _ W1 ⟨_, rfl, hb1, ba, b, g, c, pa, ca, rfl, hC, hA⟩
 have hs1 := Nat.le_refl w.heap.size
 replace hC := hC.mono hs1
 replace hA := hA.mono hs1
 refine xbs 16 3 [.int .i64 0, .int .i64 5, .int .i64 2] 3 fun b2 W2 n2 => ?_
 have hA'1 := hA.below n2.below
 have hB := Bl.next hb1 n2.below
 refine xc 0 (args := #[.pointer (some ⟨ba, 0, none⟩), .slice (some ⟨b2, 0, none⟩) 3 3]) (plot_Data w.heap.size ba b g _ c pa ca 1 _ 0 (List.replicate (256 * 9) (0 : UInt8)) (some ⟨b2, 0, none⟩) 3 l052 _ hC hA'1 (own_sl (own_of_blk (size := 1) (n := 3) n2.blk (n2.ge hb1) rfl (by decide))) (by decide) l052_split (by decide) (Nat.zero_le _) (by have := l052_N; omega) hB.size) ?_
 rintro _ W3 ⟨rfl, hb3, hO3, hX3, hA⟩
 refine xr 12 (args := #[.pointer (some ⟨ba, 0, none⟩)]) (alloc_Image ba b _ _ _ hA.blkA) fun W4 hb4 => ?_
 have hbk := (data_back (l := l052) (q := 1 + 0) (bs := (List.replicate (256 * 9) (0 : UInt8))) (fuel := 9) (by decide) l052_split (by decide) (by have := l052_N; omega) (by have := l052_N; rw [List.length_replicate]; omega) (by have := l052_N; omega)).1
 have hA'2 := hA.below hb4
 refine xc 2 (args := #[.pointer (some ⟨b, 0, none⟩), .int .i64 ((plotB l052 (1 + 0) (List.replicate (256 * 9) (0 : UInt8))).1), .int .i64 ((plotB l052 (1 + 0) (List.replicate (256 * 9) (0 : UInt8))).2.1), .int .i64 3, .int .i64 9]) (chart_DataK w.heap.size b (some ⟨g, 0, none⟩) (256 * 9) c (plotB l052 (1 + 0) (List.replicate (256 * 9) (0 : UInt8))).2.2 (plotB l052 (1 + 0) (List.replicate (256 * 9) (0 : UInt8))).1 (plotB l052 (1 + 0) (List.replicate (256 * 9) (0 : UInt8))).2.1 3 9 3 l052 _ ⟨hA'2.blkI, hA'2.data, by omega⟩ (by omega) (by decide) hbk rfl) ?_
 rintro _ W5 ⟨_, rfl, hb5, p9, c9, rfl, ho9⟩
 have hs5 := (Bl.next (hB.trans hb3) hb4).size
 refine xbs 17 3 [.int .i64 0, .int .i64 5, .int .i64 2] 3 fun b6 W6 n6 => ?_
 have k2'1 := ((n2.blk.only hO3 (by decide)).below hb4).below hb5
 have d6_b2 := n6.ne k2'1
 have hB'1 := Bl.next (Bl.next (hB.trans hb3) hb4) hb5
 have g6 := n6.ge hB'1
 have ho9'1 := own_mono ho9 hs5
 have r6_ho9 := own_ne ho9'1 n6
 have ho9'2 := own_below ho9'1 n6.below
 refine xr 0 (args := #[.slice p9 3 c9, .slice (some ⟨b6, 0, none⟩) 3 3]) (ref01_SameM p9 (some ⟨b6, 0, none⟩) 3 c9 3 l052 _ rfl (own_sl ho9'2) (own_sl (own_of_blk (size := 1) (n := 3) n6.blk g6 rfl (by decide)))) fun W7 hb7 => ?_
 have hB'2 := Bl.next (Bl.next hB'1 n6.below) hb7
 exact xe 5 (.bool true) ⟨rfl, hB'2⟩
end Go.Proofs.YthlakkdgcgkcdaaGreat
namespace Go.Proofs.YthlakkdgcgkcdaaGreat
open Go.RowKit Go.Extern.Stop Go.Stop Go.Extern
set_option linter.unusedVariables false
attribute [local irreducible] wpList wpAnyH Code.wp Oper.wp Go

set_option maxRecDepth 100000 in
set_option maxHeartbeats 8000000 in
theorem chartBack_law (a0 : Option Addr) (c0 : Nat) (l : List Int) (w : World) (h : Sl w (.slice a0 l.length c0) l.length (l.map (Value.int .i64))) :
    Calls Tryz.prog 3 #[.slice a0 l.length c0] w (Ret (.bool true) w) := by
 refine zin 86 Tryz.func3 ?_
 refine xid 13 ((↑l.length : Int) > (3000 : Int)) (fun hc1 => ?_) (fun hc1 => ?_)
 · refine xr 2 (args := #[]) (lives23 _) fun W2 hb2 => ?_
   exact xe 5 (.bool true) ⟨rfl, hb2⟩
 refine xc 5 (args := #[.slice a0 l.length c0]) (tally_Split a0 c0 l _ h (by omega)) ?_
 rintro e W3 hq3
 rcases hq3 with ⟨hse, rfl, hb3⟩ | ⟨hs, pb, cb, gs, po, co, rfl, hb3, hL, hov⟩
 · refine xr 24 (args := #[]) (lives23 _) fun W4 hb4 => ?_
   have hB := Bl.next hb3 hb4
   exact xe 5 (.bool true) ⟨rfl, hB⟩
 refine xid 21 ((↑((overK l l.length).length) : Int) > (600 : Int)) (fun hc5 => ?_) (fun hc5 => ?_)
 · refine xr 2 (args := #[]) (lives23 _) fun W6 hb6 => ?_
   have hB := Bl.next hb3 hb6
   exact xe 5 (.bool true) ⟨rfl, hB⟩
 have hs7 : w.heap.size ≤ (W3).heap.size := hb3.size
 refine xc 4 (args := #[.int .i64 60, .int .i64 1]) (madeN23 60 1 (60) (1) (by simp) rfl _ (by decide) (by decide) (by decide)) ?_
 rintro _ W7 ⟨_, rfl, hb7, ba, b, g, c, pa, ca, rfl, hC, hA⟩
 replace hC := hC.mono hb3.size
 replace hA := hA.mono hb3.size
 have hpl := plotN_le (l := l) (by omega) (by omega)
 have hB'1 := Bl.next hb3 hb7
 refine xc 17 (args := #[.pointer (some ⟨ba, 0, none⟩), .slice a0 l.length c0]) (plot_Data w.heap.size ba b g _ c pa ca 1 _ 0 (List.replicate (256 * 60) (0 : UInt8)) a0 c0 l _ hC hA (h.below hB'1) (by omega) hs (by decide) (Nat.zero_le _) (by omega) hB'1.size) ?_
 rintro _ W8 ⟨rfl, hb8, hO8, hX8, hA⟩
 refine xr 12 (args := #[.pointer (some ⟨ba, 0, none⟩)]) (alloc_Image ba b _ _ _ hA.blkA) fun W9 hb9 => ?_
 have hbk := (data_back (l := l) (q := 1 + 0) (bs := (List.replicate (256 * 60) (0 : UInt8))) (fuel := 100) (by decide) hs (by omega) (by omega) (by rw [List.length_replicate]; omega) (by omega)).1
 have hA'1 := hA.below hb9
 refine xc 4 (args := #[.pointer (some ⟨b, 0, none⟩), .int .i64 ((plotB l (1 + 0) (List.replicate (256 * 60) (0 : UInt8))).1), .int .i64 ((plotB l (1 + 0) (List.replicate (256 * 60) (0 : UInt8))).2.1), .int .i64 (↑l.length : Int), .int .i64 100]) (chart_DataK w.heap.size b (some ⟨g, 0, none⟩) (256 * 60) c (plotB l (1 + 0) (List.replicate (256 * 60) (0 : UInt8))).2.2 (plotB l (1 + 0) (List.replicate (256 * 60) (0 : UInt8))).1 (plotB l (1 + 0) (List.replicate (256 * 60) (0 : UInt8))).2.1 (↑l.length : Int) 100 l.length l _ ⟨hA'1.blkI, hA'1.data, by omega⟩ (by omega) (by decide) hbk rfl) ?_
 rintro _ W10 ⟨_, rfl, hb10, p9, c9, rfl, ho9⟩
 have hs10 := (Bl.next (hB'1.trans hb8) hb9).size
 have hA'2 := hA'1.below hb10
 refine xr 10 (args := #[.pointer (some ⟨ba, 0, none⟩)]) (alloc_Image ba b _ _ _ hA'2.blkA) fun W11 hb11 => ?_
 refine xwm 4 ((↑l.length : Int) + 1) (↑(l.length + 1) : Int) ?_
 have hA'3 := hA'2.below hb11
 refine xc 0 (args := #[.pointer (some ⟨b, 0, none⟩), .int .i64 ((plotB l (1 + 0) (List.replicate (256 * 60) (0 : UInt8))).1), .int .i64 ((plotB l (1 + 0) (List.replicate (256 * 60) (0 : UInt8))).2.1), .int .i64 (↑(l.length + 1) : Int), .int .i64 100]) (chart_DataN w.heap.size b (some ⟨g, 0, none⟩) (256 * 60) c (plotB l (1 + 0) (List.replicate (256 * 60) (0 : UInt8))).2.2 (plotB l (1 + 0) (List.replicate (256 * 60) (0 : UInt8))).1 (plotB l (1 + 0) (List.replicate (256 * 60) (0 : UInt8))).2.1 (↑(l.length + 1) : Int) 100 _ ⟨hA'3.blkI, hA'3.data, by omega⟩ (by omega) (by decide) (data_back (l := l) (q := 1 + 0) (bs := (List.replicate (256 * 60) (0 : UInt8))) (fuel := 100) (by decide) hs (by omega) (by omega) (by rw [List.length_replicate]; omega) (by omega)).2) ?_
 rintro _ W12 ⟨_, rfl, hb12, ty9, x9, rfl⟩
 have ho9'1 := own_below (own_below (own_mono ho9 hs10) hb11) hb12
 have hB'2 := Bl.next (Bl.next (Bl.next (Bl.next (hB'1.trans hb8) hb9) hb10) hb11) hb12
 refine xr 18 (args := #[.slice p9 l.length c9, .slice a0 l.length c0]) (ref01_SameM p9 a0 l.length c9 c0 l _ rfl (own_sl ho9'1) (h.below hB'2)) fun W13 hb13 => ?_
 refine xr 11 (args := #[]) (lives23 _) fun W14 hb14 => ?_
 have hB'3 := Bl.next (Bl.next hB'2 hb13) hb14
 exact xe 5 (.bool true) ⟨rfl, hB'3⟩
end Go.Proofs.YthlakkdgcgkcdaaGreat
