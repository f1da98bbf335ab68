/- scantlinglaw05.Own and Told, scantlingref05.At and Same, as contracts. -/
import Derived.Test.YtbopakjiahojdaaGreatDoorErrLives
import Derived.Test.YtbopakjiahojdaaGreatDoorApp
namespace Go.Proofs.YtbopakjiahojdaaGreatDoor
open Go.RowKit Go.Extern.Stop Go.Stop Go.Extern
set_option linter.unusedVariables false

/-- an error as the document has it -/
def FltV (w : World) (v : Value) (l : List Int) (c : Int) : Prop := ∃ s, v = .agg #[s, .int .i64 c] ∧ Ints w s l
theorem FltV.below {w w' : World} {v : Value} {l : List Int} {c : Int} (h : FltV w v l c) (hb : Below w.heap.size w w') : FltV w' v l c := by
  obtain ⟨s, rfl, hs⟩ := h
  exact ⟨s, rfl, hs.below hb⟩
def ownL (l : List Int) (c : Int) : List (Option Int) := if c = 0 then [] else l.map some
def ownT (c : Int) : Option Int := if c = 0 then none else some c
theorem ownL_nz {l : List Int} {c : Int} (h : c ≠ 0) : ownL l c = l.map some := if_neg h
theorem ownT_nz {c : Int} (h : c ≠ 0) : ownT c = some c := if_neg h
theorem codeOf_own (l : List Int) (c : Int) : codeOf (ownL l c) (ownT c) = c := by
  by_cases h : c = 0
  · subst h; rfl
  · rw [ownL_nz h, ownT_nz h]; simp [codeOf, noErr]
theorem blocksOf_own (l : List Int) (c : Int) : blocksOf (ownL l c) = if c = 0 then [] else l := by
  by_cases h : c = 0
  · subst h; rfl
  · rw [ownL_nz h, if_neg h]; simp [blocksOf, List.filterMap_map]
theorem drop_some {l : List Int} {k : Nat} (h : k < l.length) : (l.drop k).map some = some l[k] :: (l.drop (k + 1)).map some := by
  rw [List.drop_eq_getElem_cons h]; rfl

theorem res_told {w : World} {B : Nat} {s : Value} {c : Int} {t : TypeId} (h : Blk w B [s, .int .i64 c] t) (hs : ∃ a n m, s = .slice a n m) {tmps : Array Value} (e : tmps.getD 2 undef = .pointer (some ⟨B, 0, none⟩)) :
    (results Tryz.f15 tmps).run Tryz.prog w = .ok (.agg #[s, .int .i64 c]) w := by
  obtain ⟨a, n, m, rfl⟩ := hs
  have c0 := h.cell (i := 0) rfl
  have c1 := h.cell (i := 1) rfl
  have e' : tmps[2]?.getD undef = .pointer (some ⟨B, 0, none⟩) := by simpa using e
  simp [results, Tryz.results15, go_sem, c0, c1, e']
set_option maxHeartbeats 1000000 in
theorem law05_Told (t : Option Int) (l : List (Option Int)) (v : Value) (w : World) (hlen : l.length ≤ 1000000) (hg : ErrT w) (hv : ErrV w l t v) :
    Calls Tryz.prog 15 #[v] w (RetS (fun w' r => FltV w' r (blocksOf l) (codeOf l t)) w) := by
  have hB := Bl.box w (.cells #[.slice none 0 0, .int .i64 0] 33)
  have k0 := Blk.new w [.slice none 0 0, .int .i64 0] 33
  rcases hv.nil_or with ⟨hz, rfl⟩ | ⟨hz, ty, x, rfl⟩
  · obtain ⟨rfl, rfl⟩ := noErr_true hz
    go_enter Tryz.func15, Tryz.ntmps15
    go_wp2_with fail
    exact bodyPost_ret (res_told k0 ⟨_, _, _, rfl⟩ rfl) rfl ⟨_, rfl, hB, _, rfl, .inl ⟨_, _, rfl, rfl, rfl⟩⟩
  · go_enter Tryz.func15, Tryz.ntmps15
    have hv1 := hv.below hB
    go_wp2_with fail
    refine (fault_Blocks t l _ _ hlen hv1).mono ?_
    rintro e w1 ⟨r, rfl, hb1, h1⟩
    have hB1 := Bl.next hB hb1
    go_wp2_with fail
    refine (fault_Code t l _ w1 (hg.below hB1) (hv.below hB1)).mono ?_
    rintro e w2 ⟨rfl, hb2⟩
    have k2 := (k0.below hb1).below hb2
    obtain ⟨a, m, rfl⟩ := (own_sl h1).slice
    have d0 := k2.cell (i := 0) rfl
    have d1 := k2.cell (i := 1) rfl
    have f0 := k2.frozen 0
    have f1 := k2.frozen 1
    have hB2 := Bl.next hB1 hb2
    have hB3 : Below w.heap.size w ((w2.setCell ⟨w.heap.size, 0, none⟩ (.slice a (blocksOf l).length m)).setCell ⟨w.heap.size, 1, none⟩ (.int .i64 (codeOf l t))) := (hB2.setCell (Nat.le_refl _) _).setCell (Nat.le_refl _) _
    have h3 := ownsRow_setCell_below (ownsRow_setCell_below (own_below h1 hb2) (a := ⟨w.heap.size, 0, none⟩) (by simp) (.slice a (blocksOf l).length m)) (a := ⟨w.heap.size, 1, none⟩) (by simp) (.int .i64 (codeOf l t))
    go_wp2_with fail
    exact bodyPost_ret (res_told ((k2.set 0 _).set 1 _) ⟨_, _, _, rfl⟩ rfl) rfl ⟨_, rfl, hB3, _, rfl, own_sl h3⟩
set_option maxRecDepth 100000 in
set_option maxHeartbeats 2000000 in
theorem ref05_Same (l : List Int) (c : Int) (v1 v2 : Value) (w : World) (h1 : FltV w v1 l c) (h2 : FltV w v2 l c) :
    Calls Tryz.prog 14 #[v1, v2] w (Ret (.bool true) w) := by
  obtain ⟨s1, rfl, k1⟩ := h1
  obtain ⟨s2, rfl, k2⟩ := h2
  obtain ⟨a1, p1, rfl⟩ := k1.slice
  obtain ⟨a2, p2, rfl⟩ := k2.slice
  have hmax := k1.len
  have hB : Below w.heap.size w ((w.alloc (.cells #[.slice a1 l.length p1, .int .i64 c] 33)).alloc (.cells #[.slice a2 l.length p2, .int .i64 c] 33)) := Bl.next (Bl.box _ _) (Bl.box _ _)
  have b1 : Blk ((w.alloc (.cells #[.slice a1 l.length p1, .int .i64 c] 33)).alloc (.cells #[.slice a2 l.length p2, .int .i64 c] 33)) w.heap.size [.slice a1 l.length p1, .int .i64 c] 33 := (Blk.new _ _ _).alloc _
  have b2 := Blk.new (w.alloc (.cells #[.slice a1 l.length p1, .int .i64 c] 33)) [.slice a2 l.length p2, .int .i64 c] 33
  simp only [World.size_alloc] at b2
  go_enter Tryz.func14, Tryz.ntmps14
  go_wp2_with fail
  obtain ⟨W, hW⟩ : ∃ W, (w.alloc (.cells #[.slice a1 l.length p1, .int .i64 c] 33)).alloc (.cells #[.slice a2 l.length p2, .int .i64 c] 33) = W := ⟨_, rfl⟩
  change Blk ((w.alloc (.cells #[.slice a1 l.length p1, .int .i64 c] 33)).alloc (.cells #[.slice a2 l.length p2, .int .i64 c] 33)) _ _ _ at b2
  rw [hW] at hB b1 b2 ⊢
  have k1 := k1.below hB
  have k2 := k2.below hB
  clear hW
  go_loopw [5] (fun i wr => ∃ k : Nat, k ≤ l.length ∧ i = .int .i64 k ∧ Below W.heap.size W wr) (fun i _ => l.length - (intOf i).toNat)
  case atStart => exact ⟨0, by omega, rfl, Below.refl _ _⟩
  case round =>
    obtain ⟨k, hk, rfl, hbr⟩ := hrel
    have q1 := b1.below hbr
    have q2 := b2.below hbr
    have c1 := q1.cell (i := 0) rfl
    have c2 := q2.cell (i := 0) rfl
    by_cases hlt : k < l.length
    · rcases Sl.at (k1.below hbr) with h0 | ⟨g1, o1, rfl, hc1⟩
      · rw [List.map_eq_nil_iff] at h0; subst h0; exact absurd hlt (by simp)
      rcases Sl.at (k2.below hbr) with h0 | ⟨g2, o2, rfl, hc2⟩
      · rw [List.map_eq_nil_iff] at h0; subst h0; exact absurd hlt (by simp)
      have e1 : ∀ z : Ext wr, z.val.cell? ⟨w.heap.size, 0, none⟩ = some (.slice (some ⟨g1, o1, none⟩) l.length p1) := fun z => z.get c1
      have e2 : ∀ z : Ext wr, z.val.cell? ⟨w.heap.size + 1, 0, none⟩ = some (.slice (some ⟨g2, o2, none⟩) l.length p2) := fun z => z.get c2
      have e3 : ∀ z : Ext wr, z.val.cell? ⟨g1, o1 + k, none⟩ = some (.int .i64 l[k]) := fun z => z.get (hc1 k _ (by simp [hlt]))
      have e4 : ∀ z : Ext wr, z.val.cell? ⟨g2, o2 + k, none⟩ = some (.int .i64 l[k]) := fun z => z.get (hc2 k _ (by simp [hlt]))
      have i1 : (0 : Int) ≤ (k : Int) := by omega
      have i2 : (k : Int) < (l.length : Int) := by omega
      clear hc1 hc2
      go_wp2_with fail
      refine wp_region_ext (by kernel_rfl) (by kernel_rfl) ?_
      repeat (go_big_quiet_step (fail))
      refine wpQuiet_nil ?_
      intro wx
      go_wp2_with fail
      exact ⟨⟨k + 1, by omega, by go_num, Bl.next hbr wx.below⟩, by simp [intOf]; omega⟩
    · go_wp2_with fail
      go_ret
      exact ⟨rfl, Bl.next hB hbr⟩

theorem res_at05 {w : World} {B : Nat} {s : Value} {c : Int} {t : TypeId} (h : Blk w B [s, .int .i64 c] t) (hs : ∃ a n m, s = .slice a n m) {tmps : Array Value} (e : tmps.getD 4 undef = .pointer (some ⟨B, 0, none⟩)) :
    (results Tryz.f96 tmps).run Tryz.prog w = .ok (.agg #[s, .int .i64 c]) w := by
  obtain ⟨a, n, m, rfl⟩ := hs
  have c0 := h.cell (i := 0) rfl
  have c1 := h.cell (i := 1) rfl
  have e' : tmps[4]?.getD undef = .pointer (some ⟨B, 0, none⟩) := by simpa using e
  simp [results, Tryz.results96, go_sem, c0, c1, e']
set_option maxRecDepth 100000 in
set_option maxHeartbeats 2000000 in
theorem ref05_At (b : Int) (l : List Int) (c : Int) (v : Value) (w : World) (hlen : l.length ≤ 1000000) (hv : FltV w v l c) :
    Calls Tryz.prog 96 #[.int .i64 b, v] w (RetS (fun w' r => FltV w' r (if c = 0 then [] else b :: l) c) w) := by
  obtain ⟨s, rfl, k⟩ := hv
  obtain ⟨i0, hi0, hz0, hz1, hz2⟩ := info_parts (P := Tryz.prog) (e := 3) (z := .int .i64 0) (size := 1) (bytes := 8) (by kernel_rfl)
  obtain ⟨a, p, rfl⟩ := k.slice
  have hB : Below w.heap.size w ((w.alloc (.cells #[.slice a l.length p, .int .i64 c] 33)).alloc (.cells #[.slice none 0 0, .int .i64 0] 33)) := Bl.next (Bl.box _ _) (Bl.box _ _)
  have b1 : Blk ((w.alloc (.cells #[.slice a l.length p, .int .i64 c] 33)).alloc (.cells #[.slice none 0 0, .int .i64 0] 33)) w.heap.size [.slice a l.length p, .int .i64 c] 33 := (Blk.new _ _ _).alloc _
  have b2 := Blk.new (w.alloc (.cells #[.slice a l.length p, .int .i64 c] 33)) [.slice none 0 0, .int .i64 0] 33
  simp only [World.size_alloc] at b2
  by_cases hc : c = 0
  · subst hc
    go_enter Tryz.func96, Tryz.ntmps96
    go_wp2_with fail
    exact bodyPost_ret (res_at05 b2 ⟨_, _, _, rfl⟩ rfl) rfl ⟨_, rfl, hB, _, rfl, .inl ⟨_, _, rfl, rfl, rfl⟩⟩
  have hc' : (c == 0) = false := by simpa using hc
  simp only [hc, if_false]
  clear hc
  go_enter Tryz.func96, Tryz.ntmps96
  go_wp2_with fail
  obtain ⟨W, hW⟩ : ∃ W, (w.alloc (.cells #[.slice a l.length p, .int .i64 c] 33)).alloc (.cells #[.slice none 0 0, .int .i64 0] 33) = W := ⟨_, rfl⟩
  have hsz : w.heap.size + 1 + 1 = W.heap.size := by rw [← hW]; simp
  change Blk ((w.alloc (.cells #[.slice a l.length p, .int .i64 c] 33)).alloc (.cells #[.slice none 0 0, .int .i64 0] 33)) _ _ _ at b2
  rw [hW] at hB b1 b2 ⊢
  have k1 := k.below hB
  clear hW k
  have c10 := b1.cell (i := 0) rfl
  have c11 := b1.cell (i := 1) rfl
  have c20 := b2.cell (i := 0) rfl
  have c21 := b2.cell (i := 1) rfl
  have f20 := b2.frozen 0
  have f21 := b2.frozen 1
  have hO : (W.alloc (.cells #[.int .i64 b] 3)).ownsRow W.heap.size 3 1 (.slice (some ⟨W.heap.size, 0, none⟩) 1 1) 1 [.int .i64 b] := World.ownsRow_lit W #[.int .i64 b] 1 (Nat.le_refl _) (by unfold maxLen; omega) rfl
  have kA := k1.below (Bl.box W (.cells #[.int .i64 b] 3))
  have hz : w.heap.size < W.heap.size := by omega
  have hz2' : w.heap.size + 1 < W.heap.size := by omega
  have hone : ∀ u ∈ l.map (Value.int .i64), u.oneCell' = true := by intro u hu; obtain ⟨x, _, rfl⟩ := List.mem_map.1 hu; rfl
  go_region_held3 (fun w' => w'.cell? ⟨w.heap.size, 0, none⟩ = some (.slice a l.length p) ∧ w'.cell? ⟨w.heap.size, 1, none⟩ = some (.int .i64 c))
    (first | go_keep | exact ⟨(hb2.cell (by exact hz)).trans (getA _ c10), (hb2.cell (by exact hz)).trans (getA _ c11)⟩)
    ((refine step_app_sl (by rfl) _ _ _ (by rfl) W.heap.size 3 i0 (.int .i64 0) 1 8 Tryz.underlying31 hi0 hz0 hz1 hz2 rfl (by omega) (.slice (some ⟨W.heap.size, 0, none⟩) 1 1) 1 [.int .i64 b] (by rfl) hO (.slice a l.length p) l.length (l.map (Value.int .i64)) (by rfl) kA (by simp) hone (by unfold maxLen; omega) (by omega) (by simp) ?_; intro v2 w2 hown2 hgrow2 hb2; obtain ⟨a2, p2, rfl⟩ := (own_sl hown2).slice; have q2 : Blk w2 (w.heap.size + 1) [.slice none 0 0, .int .i64 0] 33 := Blk.below' (by exact b2.alloc (.cells #[.int .i64 b] 3)) hb2 hz2'; have d0 := q2.cell (i := 0) rfl; have d1 := q2.cell (i := 1) rfl; have g0 := q2.frozen 0; have g1 := q2.frozen 1))
  rename_i hHeld
  clear hHeld
  have hB2 : Below w.heap.size w w2 := Bl.next hB (Below.trans (Bl.box W (.cells #[.int .i64 b] 3)).drew hb2)
  have hB3 : Below w.heap.size w ((w2.setCell ⟨w.heap.size + 1, 0, none⟩ (.slice a2 (1 + l.length) p2)).setCell ⟨w.heap.size + 1, 1, none⟩ (.int .i64 c)) := (hB2.setCell (by simp) _).setCell (by simp) _
  have h3 := own_sl (ownsRow_setCell_below (ownsRow_setCell_below hown2 (a := ⟨w.heap.size + 1, 0, none⟩) hz2' (.slice a2 (1 + l.length) p2)) (a := ⟨w.heap.size + 1, 1, none⟩) hz2' (.int .i64 c))
  go_wp2_with fail
  refine bodyPost_ret (res_at05 ((q2.set 0 _).set 1 _) ⟨_, _, _, rfl⟩ rfl) rfl ⟨_, rfl, hB3, _, rfl, ?_⟩
  simpa [Ints, Nat.add_comm] using h3
end Go.Proofs.YtbopakjiahojdaaGreatDoor

