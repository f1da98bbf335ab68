/- The walks of the two laws of layer 13: for any span, any keys and any number SpanTells and SpanSplits return true and change nothing that lay there. -/
import Derived.Test.YthjemliaeklecaaSpanRef
import Derived.Deep.RegionHeld3
namespace Go.Proofs.Ythjemliaeklecaa
open Go.RowKit
set_option linter.unusedVariables false

/-- what a region holds while it calls: two cells, and that all is as it was when it began -/
theorem held2 {W V V' : World} {p0 p1 : Addr} {v0 v1 : Value} (hb : Below V.heap.size V V') (h : V.cell? p0 = some v0 ∧ V.cell? p1 = some v1 ∧ Below W.heap.size W V) : V'.cell? p0 = some v0 ∧ V'.cell? p1 = some v1 ∧ Below W.heap.size W V' :=
  ⟨getC hb h.1, getC hb h.2.1, Bl.next h.2.2 hb⟩
theorem blk_ints {w : World} {b : Nat} {l : List Int} {t : TypeId} (h : Blk w b (l.map (Value.int .i64)) t) (hl : l.length ≤ maxLen) : Ints w (.slice (some ⟨b, 0, none⟩) l.length l.length) l :=
  .inr ⟨b, 0, l.length, rfl, Nat.le_refl _, hl, fun j x hj => by rw [Nat.zero_add]; exact h.cell hj⟩

set_option maxRecDepth 100000 in
set_option maxHeartbeats 1000000 in
theorem span_lives (w : World) : Calls Try.prog 6 #[] w (Ret (.bool true) w) := by
  go_enter Try.func6, Try.ntmps6
  go_wp2_with fail
  have hI : Ints (w.alloc (.cells #[.int .i64 2, .int .i64 5] 3)) (.slice (some ⟨w.heap.size, 0, none⟩) 2 2) [2, 5] := blk_ints (l := [2, 5]) (Blk.new w [.int .i64 2, .int .i64 5] 3) (by simp [maxLen])
  refine (span_child 0 10 0 _ [2, 5] _ (by simp) hI).mono ?_
  rintro e w1 ⟨rfl, hb1⟩
  rw [show childI 0 10 [2, 5] 0 = ((2, 5), 0) from by decide]
  have hB1 := Bl.next (Bl.box w _) hb1
  have hz1 := hB1.size
  go_wp2_with fail
  have hI2 : Ints ((w1.alloc (.cells #[.int .i64 2, .int .i64 5] 23)).alloc (.cells #[.int .i64 2, .int .i64 5] 3)) (.slice (some ⟨w1.heap.size + 1, 0, none⟩) 2 2) [2, 5] := by
    have := blk_ints (l := [2, 5]) (Blk.new (w1.alloc (.cells #[.int .i64 2, .int .i64 5] 23)) [.int .i64 2, .int .i64 5] 3) (by simp [maxLen])
    simpa using this
  refine (span_child 0 10 1 _ [2, 5] _ (by simp) hI2).mono ?_
  rintro e w2 ⟨rfl, hb2⟩
  rw [show childI 0 10 [2, 5] 1 = ((5, 10), 0) from by decide]
  have k1 := ((Blk.new w1 [.int .i64 2, .int .i64 5] 23).alloc (.cells #[.int .i64 2, .int .i64 5] 3)).below hb2
  have z1 := k1.lt
  have c10 := k1.cell (i := 0) rfl
  have c11 := k1.cell (i := 1) rfl
  have hB2 := Bl.next hB1 (Bl.next (Bl.next (Bl.box w1 _) (Bl.box _ _)) hb2)
  clear hb1 hb2
  go_wp2_with fail
  refine (span_all _).mono ?_
  rintro e w3 ⟨rfl, hb3⟩
  go_wp2_with fail
  go_ret
  exact ⟨rfl, Bl.next (Bl.next hB2 (Bl.box _ _)) hb3⟩

set_option maxRecDepth 100000 in
set_option maxHeartbeats 2000000 in
theorem span_tells (lo hi i : Int) (v : Value) (l : List Int) (w : World) (hi64 : -9223372036854775808 ≤ i ∧ i ≤ 9223372036854775807) (hlen : l.length ≤ 9223372036854775807) (hl : Ints w v l) :
    Calls Try.prog 3 #[spanV lo hi, v, .int .i64 i] w (Ret (.bool true) w) := by
  obtain ⟨a, c, rfl⟩ := hl.slice
  unfold spanV
  by_cases hgt : 200 < l.length
  · go_enter Try.func3, Try.ntmps3
    go_wp2_with fail
    refine (span_lives _).mono ?_
    rintro e w1 ⟨rfl, hb1⟩
    go_wp2_with fail
    go_ret
    exact ⟨rfl, Bl.next (Bl.box w _) hb1⟩
  have hle : l.length ≤ 200 := by omega
  go_enter Try.func3, Try.ntmps3
  go_wp2_with fail
  have k0 := Blk.new w [.int .i64 lo, .int .i64 hi] 23
  have hl1 := hl.below (Bl.box w (.cells #[.int .i64 lo, .int .i64 hi] 23))
  have hB := Bl.box w (.cells #[.int .i64 lo, .int .i64 hi] 23)
  obtain ⟨W, hW⟩ : ∃ W, w.alloc (.cells #[.int .i64 lo, .int .i64 hi] 23) = W := ⟨_, rfl⟩
  change Blk (w.alloc (.cells #[.int .i64 lo, .int .i64 hi] 23)) _ _ _ at k0
  rw [hW] at k0 hl1 hB ⊢
  clear hW hl
  have e0 : ∀ z : Ext W, z.val.cell? ⟨w.heap.size, 0, none⟩ = some (.int .i64 lo) := fun z => z.get (k0.cell (i := 0) rfl)
  have e1 : ∀ z : Ext W, z.val.cell? ⟨w.heap.size, 1, none⟩ = some (.int .i64 hi) := fun z => z.get (k0.cell (i := 1) rfl)
  refine wp_region_ext (by kernel_rfl) (by kernel_rfl) ?_
  repeat (go_big_quiet_step (first | (go_at_call 7; exact Ret.ext (span_right _ _ _)) | (go_at_call 8; exact Ret.ext (refspan_right _ _ _)) | (go_at_call 9; exact Ret.ext (span_has _ _ _ _)) | (go_at_call 10; exact Ret.ext (refspan_has _ _ _ _)) | (go_at_call 11; exact Ret.ext (span_fits _ _ _ l _ (hl1.below (Ext.below _)))) | (go_at_call 12; exact Ret.ext (refspan_fits _ _ _ l _ (hl1.below (Ext.below _))))))
  refine wpQuiet_nil ?_
  intro wx
  have hB1 := Bl.next hB wx.below
  have k1 := k0.below wx.below
  have hl2 := hl1.below wx.below
  obtain ⟨W1, hb1⟩ := wx
  dsimp only at hB1 k1 hl2 ⊢
  clear e0 e1 k0 hl1 hB hb1
  have z1 := k1.lt
  have c10 := k1.cell (i := 0) rfl
  have c11 := k1.cell (i := 1) rfl
  go_wp2_with fail
  refine (span_child lo hi i _ l _ hlen hl2).mono ?_
  rintro e w2 ⟨rfl, hb2⟩
  have k2 := k1.below hb2
  have z2 := k2.lt
  have c20 := k2.cell (i := 0) rfl
  have c21 := k2.cell (i := 1) rfl
  have hl3 := hl2.below hb2
  have hB2 := Bl.next hB1 hb2
  obtain ⟨r, hr⟩ : ∃ r, childI lo hi l i = r := ⟨_, rfl⟩
  obtain ⟨⟨x, y⟩, e⟩ := r
  rw [hr]
  go_wp2_with fail
  refine (refspan_child lo hi i _ l _ hi64 (by omega) (hl3.below (Bl.box _ _))).mono ?_
  rintro e' w3 ⟨rfl, hb3⟩
  rw [hr]
  clear hr
  have q7 := (Blk.new w2 [.int .i64 x, .int .i64 y] 23).below hb3
  have k3 := (k2.alloc (.cells #[.int .i64 x, .int .i64 y] 23)).below hb3
  have hl4 := (hl3.below (Bl.box w2 (.cells #[.int .i64 x, .int .i64 y] 23))).below hb3
  have hB3 := Bl.next (Bl.next hB2 (Bl.box w2 (.cells #[.int .i64 x, .int .i64 y] 23))) hb3
  clear hb3 hb2 k1 k2 hl2 hl3 z1 z2 c10 c11 c20 c21 hB1 hB2
  go_wp2_with fail
  have k4 := k3.alloc (.cells #[.int .i64 x, .int .i64 y] 23)
  have q4 := q7.alloc (.cells #[.int .i64 x, .int .i64 y] 23)
  have r4 := Blk.new w3 [.int .i64 x, .int .i64 y] 23
  have hl5 := hl4.below (Bl.box w3 (.cells #[.int .i64 x, .int .i64 y] 23))
  have hB4 := Bl.next hB3 (Bl.box w3 (.cells #[.int .i64 x, .int .i64 y] 23))
  obtain ⟨W4, hW4⟩ : ∃ W4, w3.alloc (.cells #[.int .i64 x, .int .i64 y] 23) = W4 := ⟨_, rfl⟩
  change Blk (w3.alloc (.cells #[.int .i64 x, .int .i64 y] 23)) _ _ _ at r4
  rw [hW4] at k4 q4 r4 hl5 hB4 ⊢
  clear hW4 k3 q7 hl4 hB3
  have h0 := k4.cell (i := 0) rfl
  have h1 := k4.cell (i := 1) rfl
  go_region_held3 (fun V => V.cell? ⟨w.heap.size, 0, none⟩ = some (.int .i64 lo) ∧ V.cell? ⟨w.heap.size, 1, none⟩ = some (.int .i64 hi) ∧ Below W4.heap.size W4 V)
    (first | exact ⟨h0, h1, (Below.refl _ _).drew⟩ | exact held2 hb5 (by assumption))
    (first | (go_at_call 15; refine (span_split lo hi _ l _ (by omega) (hl5.below (And.right (And.right (by assumption))))).mono ?_; rintro e w5 ⟨r, rfl, hb5, hr5⟩) | (go_at_call 16; refine (refspan_split lo hi _ l _ (by omega) (hl5.below (And.right (And.right (by assumption))))).mono ?_; rintro e w5 ⟨r, rfl, hb5, hr5⟩))
  rename_i w6 r6 hb6 hr6 hh
  have hr7 : Pairs w5 r6 (splitR lo hi l) := Sl.below hr6 hb5
  have k5 := k4.below hh.2.2
  have q5 := q4.below hh.2.2
  have r5 := r4.below hh.2.2
  have hB5 := Bl.next hB4 hh.2.2
  clear hr6 hb6 hb5 hh h0 h1 k4 q4 r4 hB4 hl5
  obtain ⟨a1, c1, rfl⟩ := Sl.slice hr5
  obtain ⟨a2, c2, rfl⟩ := Sl.slice hr7
  have hmax := Sl.len hr5
  have HA := Lib.hid (Pairs.at hr5); clear hr5
  have HB := Lib.hid (Pairs.at hr7); clear hr7
  have d0 := q5.cell (i := 0) rfl
  have d1 := q5.cell (i := 1) rfl
  have d2 := r5.cell (i := 0) rfl
  have d3 := r5.cell (i := 1) rfl
  obtain ⟨L, hL⟩ : ∃ L, splitR lo hi l = L := ⟨_, rfl⟩
  rw [hL] at HA HB hmax ⊢
  clear hL
  go_wp2_with fail
  go_loopw [13] (fun i wr => ∃ k : Nat, i = .int .i64 k ∧ Below w5.heap.size w5 wr) (fun i _ => L.length - (intOf i).toNat)
  case atStart => exact ⟨0, rfl, Below.refl _ _⟩
  case round =>
    obtain ⟨k, rfl, hbr⟩ := hrel
    by_cases hlt : k < L.length
    · obtain ⟨p, hp⟩ : ∃ p, L[k]? = some p := ⟨L[k], by simp⟩
      obtain ⟨b1, o1, rfl, h10, h11⟩ := HA.out k p hp
      obtain ⟨b2, o2, rfl, h20, h21⟩ := HB.out k p hp
      clear hp
      have e10 : ∀ z : Ext wr, z.val.cell? ⟨b1, o1 + k * 2, none⟩ = some (.int .i64 p.1) := fun z => z.get (getC hbr h10)
      have e11 : ∀ z : Ext wr, z.val.cell? ⟨b1, o1 + k * 2 + 1, none⟩ = some (.int .i64 p.2) := fun z => z.get (getC hbr h11)
      have e20 : ∀ z : Ext wr, z.val.cell? ⟨b2, o2 + k * 2, none⟩ = some (.int .i64 p.1) := fun z => z.get (getC hbr h20)
      have e21 : ∀ z : Ext wr, z.val.cell? ⟨b2, o2 + k * 2 + 1, none⟩ = some (.int .i64 p.2) := fun z => z.get (getC hbr h21)
      clear h10 h11 h20 h21
      go_wp2_with fail
      refine wp_region_ext (by kernel_rfl) (by kernel_rfl) ?_
      repeat (go_big_quiet_step (fail))
      refine wpQuiet_nil ?_
      intro wx
      go_wp2_with fail
      go_roundw
      case rel => exact ⟨k + 1, by go_num, hbr.trans (wx.below.mono hbr.size)⟩
      case measure => simp [intOf]; omega
    · go_wp2_with fail
      refine (span_lives _).mono ?_
      rintro e w7 ⟨rfl, hb7⟩
      go_wp2_with fail
      go_ret
      exact ⟨rfl, Bl.next (Bl.next hB5 hbr) hb7⟩
end Go.Proofs.Ythjemliaeklecaa
