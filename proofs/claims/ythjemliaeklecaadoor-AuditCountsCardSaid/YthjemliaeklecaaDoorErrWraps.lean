/- The law FaultWraps, walked. -/
import Derived.Test.YthjemliaeklecaaDoorErrRef
namespace Go.Proofs.YthjemliaeklecaaDoor
open Go.RowKit Go.Extern.Stop Go.Stop Go.Extern
set_option linter.unusedVariables false

theorem held2e {W V V' : World} {p0 p1 : Addr} {v0 v1 : Value} (hb : Below V.heap.size V V') (h : V.cell? p0 = some v0 ∧ V.cell? p1 = some v1 ∧ Below W.heap.size W V) : V'.cell? p0 = some v0 ∧ V'.cell? p1 = some v1 ∧ Below W.heap.size W V' :=
  ⟨getC hb h.1, getC hb h.2.1, Bl.next h.2.2 hb⟩
theorem blocksOf_at (b : Int) (l : List Int) (c : Int) : blocksOf (atL b (ownL l c) (ownT c)) = if c = 0 then [] else b :: l := by
  by_cases h : c = 0
  · subst h; rfl
  · rw [ownL_nz h, ownT_nz h, if_neg h]; simp [atL, noErr, blocksOf, List.filterMap_map]
theorem codeOf_at (b : Int) (l : List Int) (c : Int) : codeOf (atL b (ownL l c) (ownT c)) (ownT c) = c := by
  by_cases h : c = 0
  · subst h; rfl
  · rw [ownL_nz h, ownT_nz h]; simp [atL, noErr, codeOf]
theorem atL_length (b : Int) (l : List Int) (c : Int) : (atL b (ownL l c) (ownT c)).length ≤ l.length + 1 := by
  by_cases h : c = 0
  · subst h; exact Nat.zero_le _
  · rw [ownL_nz h, ownT_nz h]; simp [atL, noErr]

set_option maxRecDepth 100000 in
set_option maxHeartbeats 4000000 in
theorem wraps_law (l : List Int) (c b : Int) (v : Value) (w : World) (hg : ErrT w) (hv : FltV w v l c) :
    Calls Tryd.prog 3 #[v, .int .i64 b] w (Ret (.bool true) w) := by
  obtain ⟨s, rfl, k⟩ := hv
  obtain ⟨a, p, rfl⟩ := k.slice
  have hB := Bl.box w (.cells #[.slice a l.length p, .int .i64 c] 24)
  have k0 := Blk.new w [.slice a l.length p, .int .i64 c] 24
  by_cases hl : l.length ≤ 300
  case neg =>
    have hl' : (300 : Int) < (l.length : Int) := by omega
    have hli := lives05 _ (hg.below hB)
    go_enter Tryd.func3, Tryd.ntmps3
    go_wp2_with fail
    refine hli.mono ?_
    rintro e w' ⟨rfl, hb⟩
    go_wp2_with fail
    go_ret
    exact ⟨rfl, Bl.next hB hb⟩
  have hl' : ¬ ((300 : Int) < (l.length : Int)) := by omega
  have hf : FltV (w.alloc (.cells #[.slice a l.length p, .int .i64 c] 24)) (.agg #[.slice a l.length p, .int .i64 c]) l c := ⟨_, rfl, k.below hB⟩
  go_enter Tryd.func3, Tryd.ntmps3
  go_wp2_with fail
  refine (law05_Own l c _ _ (by omega) hf).mono ?_
  rintro e w1 ⟨r1, rfl, hb1, h1⟩
  go_wp2_with fail
  refine (fault_At b (ownT c) (ownL l c) _ w1 h1).mono ?_
  rintro e W ⟨r2, rfl, hb2, h2⟩
  have hb12 := Bl.next hb1 hb2
  have hgW := hg.below (Bl.next hB hb12)
  have hfW := hf.below hb12
  have kW := k0.below hb12
  have hBW := Bl.next hB hb12
  have lz := atL_length b l c
  have hT : ∀ V, Below W.heap.size W V → Calls Tryd.prog 15 #[r2] V (RetS (fun w' r => FltV w' r (if c = 0 then [] else b :: l) c) V) := by
    intro V hV
    have := law05_Told (ownT c) (atL b (ownL l c) (ownT c)) r2 V (by omega) (hgW.below hV) (h2.below hV)
    rwa [blocksOf_at, codeOf_at] at this
  have hA : ∀ V, Below W.heap.size W V → Calls Tryd.prog 16 #[.int .i64 b, .agg #[.slice a l.length p, .int .i64 c]] V (RetS (fun w' r => FltV w' r (if c = 0 then [] else b :: l) c) V) :=
    fun V hV => ref05_At b l c _ V (by omega) (hfW.below hV)
  have hL : ∀ V, Below W.heap.size W V → Calls Tryd.prog 11 #[] V (Ret (.bool true) V) := fun V hV => lives05 V (hgW.below hV)
  have hform : (c = 0 ∧ r2 = .nilIface) ∨ (c ≠ 0 ∧ ∃ ty x, r2 = .iface ty x) := by
    by_cases h : c = 0
    · subst h; exact .inl ⟨rfl, h2⟩
    · rcases h2.nil_or with ⟨hz, _⟩ | ⟨_, h3⟩
      · rw [ownL_nz h, ownT_nz h] at hz; simp [atL, noErr] at hz
      · exact .inr ⟨h, h3⟩
  generalize (if c = 0 then [] else b :: l) = M at hT hA
  clear hb1 hb2 hb12 h1 h2 hf hfW hgW hg k0 k hB lz
  have d0 := kW.cell (i := 0) rfl
  have d1 := kW.cell (i := 1) rfl
  have hsame := fun V x y => ref05_Same M c x y V
  rcases hform with ⟨rfl, rfl⟩ | ⟨hc, ty, x, rfl⟩
  · go_wp2_with fail
    go_region_held3 (fun V => V.cell? ⟨w.heap.size, 0, none⟩ = some (.slice a l.length p) ∧ V.cell? ⟨w.heap.size, 1, none⟩ = some (.int .i64 0) ∧ Below W.heap.size W V)
      (first | exact ⟨d0, d1, (Below.refl _ _).drew⟩ | exact held2e hb5 (by assumption))
      (first | (go_at_call 15; refine (hT _ (And.right (And.right (by assumption)))).mono ?_; rintro e w5 ⟨r, rfl, hb5, hr5⟩) | (go_at_call 16; refine (hA _ (And.right (And.right (by assumption)))).mono ?_; rintro e w5 ⟨r, rfl, hb5, hr5⟩) | (go_at_call 14; refine (hsame _ _ _ (by (first | assumption | (refine FltV.below ?_ hb5; assumption))) (by (first | assumption | (refine FltV.below ?_ hb5; assumption)))).mono ?_; rintro e w5 ⟨rfl, hb5⟩) | (go_at_call 11; refine (hL _ (And.right (And.right (by assumption)))).mono ?_; rintro e w5 ⟨rfl, hb5⟩))
    rename_i hh
    go_wp2_with fail
    go_ret
    exact ⟨rfl, Bl.next hBW hh.2.2⟩
  · have hc' : (c == 0) = false := by simpa using hc
    go_wp2_with fail
    go_region_held3 (fun V => V.cell? ⟨w.heap.size, 0, none⟩ = some (.slice a l.length p) ∧ V.cell? ⟨w.heap.size, 1, none⟩ = some (.int .i64 c) ∧ Below W.heap.size W V)
      (first | exact ⟨d0, d1, (Below.refl _ _).drew⟩ | exact held2e hb5 (by assumption))
      (first | (go_at_call 15; refine (hT _ (And.right (And.right (by assumption)))).mono ?_; rintro e w5 ⟨r, rfl, hb5, hr5⟩) | (go_at_call 16; refine (hA _ (And.right (And.right (by assumption)))).mono ?_; rintro e w5 ⟨r, rfl, hb5, hr5⟩) | (go_at_call 14; refine (hsame _ _ _ (by (first | assumption | (refine FltV.below ?_ hb5; assumption))) (by (first | assumption | (refine FltV.below ?_ hb5; assumption)))).mono ?_; rintro e w5 ⟨rfl, hb5⟩) | (go_at_call 11; refine (hL _ (And.right (And.right (by assumption)))).mono ?_; rintro e w5 ⟨rfl, hb5⟩))
    rename_i hh
    go_wp2_with fail
    go_ret
    exact ⟨rfl, Bl.next hBW hh.2.2⟩
end Go.Proofs.YthjemliaeklecaaDoor
