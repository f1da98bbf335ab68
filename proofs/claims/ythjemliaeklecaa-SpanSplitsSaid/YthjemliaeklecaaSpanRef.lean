/- The document's answer for layer 13: Right, Has, Fits, Child and Split of scantlingref13 return the same plain functions. -/
import Derived.Test.YthjemliaeklecaaSpanParts
import Derived.StillTailTactics
namespace Go.Proofs.Ythjemliaeklecaa
open Go.RowKit
set_option linter.unusedVariables false

set_option maxHeartbeats 400000 in
theorem refspan_has (lo hi k : Int) (w : World) : Calls Try.prog 10 #[spanV lo hi, .int .i64 k] w (Ret (.bool (hasB lo hi k)) w) := by
  unfold spanV
  go_enter Try.func10, Try.ntmps10
  go_wp2
  all_goals go_ret
  all_goals refine ⟨?_, Bl.box _ _⟩
  all_goals (unfold hasB; congr 2; simp; omega)
set_option maxHeartbeats 400000 in
theorem refspan_right (lo hi : Int) (w : World) : Calls Try.prog 8 #[spanV lo hi] w (Ret (.bool (rightB lo hi)) w) := by
  unfold spanV
  go_enter Try.func8, Try.ntmps8
  go_wp2_with fail
  all_goals go_ret
  all_goals refine ⟨?_, Bl.box _ _⟩
  all_goals (unfold rightB; congr 2; simp [*]; try omega)

theorem fits_all {lo hi : Int} {l : List Int} (h : rightB lo hi = true) (hs : SortP l) (ha : ∀ j : Nat, j < l.length → ∀ x, l[j]? = some x → hasB lo hi x = true) : fitsI lo hi l = 0 := by
  have hall : ∀ k ∈ l, lo ≤ k ∧ k < hi := fun k hk => by
    obtain ⟨i, hi', rfl⟩ := List.mem_iff_getElem.1 hk
    exact hasB_iff.1 (ha i hi' _ (by simp))
  simp only [fitsI, h, if_true, hs]
  rw [if_pos hall]

set_option maxHeartbeats 1000000 in
theorem refspan_fits (lo hi : Int) (v : Value) (l : List Int) (w : World) (hl : Ints w v l) :
    Calls Try.prog 12 #[spanV lo hi, v] w (Ret (.int .i64 (fitsI lo hi l)) w) := by
  have hl0 := hl
  obtain ⟨a, c, rfl⟩ := hl.slice
  by_cases hr : rightB lo hi = true
  case neg =>
    have hr' : rightB lo hi = false := by simpa using hr
    unfold spanV
    go_enter Try.func12, Try.ntmps12
    go_wp2_with fail
    refine (refspan_right _ _ _).mono ?_
    rintro e w' ⟨rfl, hb⟩
    go_wp2_with fail
    go_ret
    exact ⟨by rw [fits_right hr']; rfl, Bl.next (Bl.box w _) hb⟩
  unfold spanV
  go_enter Try.func12, Try.ntmps12
  go_wp2_with fail
  refine (refspan_right _ _ _).mono ?_
  rintro e w' ⟨rfl, hb⟩
  have k0 := Blk.below (Blk.new w [.int .i64 lo, .int .i64 hi] 23) hb
  have z0 := k0.lt
  have hB := Bl.next (Bl.box w _) hb
  have hl1 := hl.below hB
  clear hb hl hl0
  have HC : Hid (∀ (j : Nat) x, l[j]? = some x → ∃ b off, a = some ⟨b, off, none⟩ ∧ w'.cell? ⟨b, off + j, none⟩ = some (.int .i64 x)) := by
    intro j x hj
    rcases hl1 with ⟨_, _, _, h2, _⟩ | ⟨b, off, cap, h1, _, _, h4⟩
    · rw [List.length_eq_zero_iff.1 h2] at hj; simp at hj
    · simp only [Value.slice.injEq] at h1
      exact ⟨b, off, h1.1, h4 j _ (by simp [hj])⟩
  have hmax : l.length ≤ 9223372036854775807 := by
    rcases hl1 with ⟨_, _, _, h2, _⟩ | ⟨b, off, cap, h1, h2, h3, _⟩
    · omega
    · unfold maxLen at h3; omega
  clear hl1
  go_wp2_with fail
  go_loopw [5] (fun i wr => ∃ k : Nat, 1 ≤ k ∧ i = .int .i64 k ∧ SortP (l.take k) ∧ Below w'.heap.size w' wr) (fun i _ => l.length - (intOf i).toNat)
  case atStart => exact ⟨1, by omega, rfl, SortP.one l, Below.refl _ _⟩
  case round =>
    obtain ⟨k, hk1, rfl, hs, hbr⟩ := hrel
    have HS := Lib.hid hs; clear hs
    by_cases hlt : k < l.length
    · obtain ⟨x, hx⟩ : ∃ x, l[k-1]? = some x := ⟨l[k-1], by simp⟩
      obtain ⟨y, hy⟩ : ∃ y, l[k]? = some y := ⟨l[k], by simp⟩
      obtain ⟨b, off, rfl, hcx⟩ := HC.out _ _ hx
      obtain ⟨b', off', e', hcy⟩ := HC.out _ _ hy
      simp only [Option.some.injEq, Addr.mk.injEq] at e'
      obtain ⟨rfl, rfl, _⟩ := e'
      have hcx := getC hbr hcx
      have hcy := getC hbr hcy
      have HX := Lib.hid hx; clear hx
      have HY := Lib.hid hy; clear hy
      go_wp2_with fail
      go_quiet (fail)
      go_wp2_with fail
      · go_ret
        exact ⟨by rw [fits_order hr hk1 HX.out HY.out (by assumption)]; rfl, Bl.next hB (Bl.drewN hbr _)⟩
      · go_roundw
        case rel => exact ⟨k + 1, by omega, by go_num, HS.out.succ HX.out HY.out (by assumption), Bl.drewN hbr _⟩
        case measure => simp [intOf]; omega
    · have HA := Lib.hid (HS.out.all (show l.length ≤ k by omega)); clear HS
      go_wp2_with fail
      go_loopw [6] (fun i w2 => ∃ j : Nat, i = .int .i64 j ∧ (∀ q : Nat, q < j → ∀ x, l[q]? = some x → hasB lo hi x = true) ∧ Below w'.heap.size w' w2) (fun i _ => l.length - (intOf i).toNat)
      case atStart => exact ⟨0, rfl, by omega, hbr⟩
      case round =>
        obtain ⟨j, rfl, hj, hb2⟩ := hrel
        have HJ := Lib.hid hj; clear hj
        by_cases hlt2 : j < l.length
        · obtain ⟨x, hx⟩ : ∃ x, l[j]? = some x := ⟨l[j], by simp⟩
          obtain ⟨b, off, rfl, hcx⟩ := HC.out _ _ hx
          have hcx := getC hb2 hcx
          have k2 := k0.below hb2
          have e0 : ∀ z : Ext wr, z.val.cell? ⟨w.heap.size, 0, none⟩ = some (.int .i64 lo) := fun z => z.get (k2.cell (i := 0) rfl)
          have e1 : ∀ z : Ext wr, z.val.cell? ⟨w.heap.size, 1, none⟩ = some (.int .i64 hi) := fun z => z.get (k2.cell (i := 1) rfl)
          have e2 : ∀ z : Ext wr, z.val.cell? ⟨b, off + j, none⟩ = some (.int .i64 x) := fun z => z.get hcx
          have HX := Lib.hid hx; clear hx
          by_cases ha : hasB lo hi x = true
          · go_wp2_with fail
            refine wp_region_ext (by kernel_rfl) (by kernel_rfl) ?_
            repeat (go_big_quiet_step (exact Ret.ext (refspan_has _ _ _ _)))
            refine wpQuiet_nil ?_
            intro wx
            go_wp2_with fail
            go_roundw
            case rel =>
              refine ⟨j + 1, by go_num, fun q hq y hy => ?_, hb2.trans (wx.below.mono hb2.size)⟩
              by_cases hqj : q = j
              · subst hqj; rw [HX.out] at hy; cases hy; exact ha
              · exact HJ.out q (by omega) y hy
            case measure => simp [intOf]; omega
          · have ha : hasB lo hi x = false := by simpa using ha
            go_wp2_with fail
            refine wp_region_ext (by kernel_rfl) (by kernel_rfl) ?_
            repeat (go_big_quiet_step (exact Ret.ext (refspan_has _ _ _ _)))
            refine wpQuiet_nil ?_
            intro wx
            go_wp2_with fail
            go_ret
            exact ⟨by rw [fits_out hr HA.out HX.out ha]; rfl, Bl.next (Bl.next hB hb2) wx.below⟩
        · go_wp2_with fail
          go_ret
          exact ⟨by rw [fits_all hr HA.out (fun q hq => HJ.out q (by omega))]; rfl, Bl.next hB hb2⟩

theorem refres_child {w : World} {B2 : Nat} {a b c : Int} {t2 : TypeId} (h2 : Blk w B2 [.int .i64 a, .int .i64 b] t2) {tmps : Array Value}
    (e2 : tmps.getD 6 undef = .pointer (some ⟨B2, 0, none⟩)) (e3 : tmps.getD 7 undef = .int .i64 c) :
    (results Try.f14 tmps).run Try.prog w = .ok (.tuple #[spanV a b, .int .i64 c]) w := by
  have c20 := h2.cell (i := 0) rfl
  have c21 := h2.cell (i := 1) rfl
  have e2' : tmps[6]?.getD undef = .pointer (some ⟨B2, 0, none⟩) := by simpa using e2
  have e3' : tmps[7]?.getD undef = .int .i64 c := by simpa using e3
  simp [results, Try.results14, go_sem, c20, c21, e2', e3', spanV]
theorem below_set2 {w w' : World} {B : Nat} (h : Below w.heap.size w w') (hB : w.heap.size ≤ B) {i j : Nat} {x y : Value} :
    Below w.heap.size w ((w'.setCell ⟨B, i, none⟩ x).setCell ⟨B, j, none⟩ y) := (h.setCell hB _).setCell hB _

set_option maxRecDepth 100000 in
set_option maxHeartbeats 1000000 in
theorem refspan_child (lo hi i : Int) (v : Value) (l : List Int) (w : World) (hi64 : -9223372036854775808 ≤ i ∧ i ≤ 9223372036854775807) (hlen : l.length ≤ 1000000) (hl : Ints w v l) :
    Calls Try.prog 14 #[spanV lo hi, v, .int .i64 i] w (Ret (.tuple #[spanV (childI lo hi l i).1.1 (childI lo hi l i).1.2, .int .i64 (childI lo hi l i).2]) w) := by
  obtain ⟨a, c, rfl⟩ := hl.slice
  unfold spanV
  go_enter Try.func14, Try.ntmps14
  go_wp2_with fail
  refine (refspan_fits lo hi _ l _ (hl.below ?_)).mono ?_
  · exact Bl.next (Bl.box _ _) (Bl.box _ _)
  rintro e w' ⟨rfl, hb⟩
  have k0 := Blk.below ((Blk.new w [.int .i64 lo, .int .i64 hi] 23).alloc (.cells #[.int .i64 0, .int .i64 0] 23)) hb
  have k1 := Blk.below (Blk.new (w.alloc (.cells #[.int .i64 lo, .int .i64 hi] 23)) [.int .i64 0, .int .i64 0] 23) hb
  simp only [World.size_alloc] at k1
  have hB : Below w.heap.size w w' := Bl.next (Bl.next (Bl.box _ _) (Bl.box _ _)) hb
  have hl1 := hl.below hB
  clear hb hl
  have z0 := k0.lt
  have z1 := k1.lt
  have c00 := k0.cell (i := 0) rfl
  have c01 := k0.cell (i := 1) rfl
  have c10 := k1.cell (i := 0) rfl
  have c11 := k1.cell (i := 1) rfl
  have f10 := k1.frozen 0
  have f11 := k1.frozen 1
  by_cases hf : fitsI lo hi l = 0
  case neg =>
    have hf2 : (fitsI lo hi l != 0) = true := by simpa using hf
    have HF := Lib.hid (child_bad (i := i) hf); clear hf
    go_wp2_with fail
    refine bodyPost_ret (refres_child ((k1.set 0 _).set 1 _) rfl rfl) rfl ?_
    rw [HF.out]
    exact ⟨rfl, below_set2 hB (by omega)⟩
  have hf2 : (fitsI lo hi l != 0) = false := by simpa using hf
  have HF := Lib.hid hf; clear hf
  by_cases hin : 0 ≤ i ∧ i < l.length
  case neg =>
    have HO := Lib.hid (child_out HF.out hin)
    by_cases h0 : i < 0
    · have d0 : decide (i < 0) = true := by simpa using h0
      go_wp2_with fail
      refine bodyPost_ret (refres_child ((k1.set 0 _).set 1 _) rfl rfl) rfl ?_
      rw [HO.out]
      exact ⟨rfl, below_set2 hB (by omega)⟩
    · have d0 : decide (i < 0) = false := by simpa using h0
      have d1 : decide ((l.length : Int) ≤ i) = true := by simp; omega
      go_wp2_with fail
      refine bodyPost_ret (refres_child ((k1.set 0 _).set 1 _) rfl rfl) rfl ?_
      rw [HO.out]
      exact ⟨rfl, below_set2 hB (by omega)⟩
  obtain ⟨h1, h2⟩ := hin
  obtain ⟨q, rfl⟩ := Int.eq_ofNat_of_zero_le h1
  have hq : q < l.length := by omega
  have HO := Lib.hid (child_in HF.out hq)
  have d0 : decide ((q : Int) < 0) = false := by simp
  have d1 : decide ((l.length : Int) ≤ (q : Int)) = false := by simp; omega
  rcases hl1 with ⟨_, _, _, h3, _⟩ | ⟨b, off, cap, h3, h4, h5, h6⟩
  · omega
  simp only [Value.slice.injEq] at h3
  obtain ⟨rfl, _, rfl⟩ := h3
  obtain ⟨x, hx⟩ : ∃ x, l[q]? = some x := ⟨l[q], by simp⟩
  have hcx := h6 q (.int .i64 x) (by simp [hx])
  by_cases hlast : q + 1 = l.length
  · have dl : ((q : Int) + 1 == (l.length : Int)) = true := by simp; omega
    have hp : partAt hi l q = (x, hi) := by unfold partAt; rw [hx, hlast]; simp
    have HP := Lib.hid hp; clear hp
    have HX := Lib.hid hx; clear hx
    clear hlast h6
    go_wp2_with fail
    go_still_tail 7, (by kernel_rfl)
    change wpList _ _ _ _ _ w'.drew
    go_wp2_with fail
    have k1' : Blk (((w'.setCell ⟨w.heap.size + 1, 0, none⟩ (.int .i64 x)).setCell ⟨w.heap.size + 1, 1, none⟩ (.int .i64 hi)).drew) (w.heap.size + 1) [.int .i64 x, .int .i64 hi] 23 := (k1.set 0 _).set 1 _
    refine bodyPost_ret (refres_child k1' rfl rfl) rfl ?_
    rw [HO.out, HP.out]
    exact ⟨rfl, (below_set2 hB (by omega)).drew⟩
  · have dl : ((q : Int) + 1 == (l.length : Int)) = false := by simp; omega
    obtain ⟨y, hy⟩ : ∃ y, l[q + 1]? = some y := ⟨l[q + 1], by simp⟩
    have hcy := h6 (q + 1) (.int .i64 y) (by simp [hy])
    have hp : partAt hi l q = (x, y) := by unfold partAt; rw [hx, hy]; rfl
    have hq1 : q + 1 < l.length := by omega
    have HP := Lib.hid hp; clear hp
    have HX := Lib.hid hx; clear hx
    have HY := Lib.hid hy; clear hy
    clear hlast h6
    go_wp2_with fail
    have hw : IntKind.i64.wrap ((q : Int) + 1) = (q : Int) + 1 := IntWalk.i64_in _ (by omega)
    have hn0 : ((q : Int) + 1).toNat = q + 1 := by omega
    have hb0 : (0 : Int) ≤ (q : Int) + 1 := by omega
    have hb1 : (q : Int) + 1 < (l.length : Int) := by omega
    go_still_tail 10, (by kernel_rfl)
    change wpList _ _ _ _ _ w'.drew
    clear hw hn0 hb0 hb1
    go_wp2_with fail
    have k1' : Blk (((w'.setCell ⟨w.heap.size + 1, 0, none⟩ (.int .i64 x)).setCell ⟨w.heap.size + 1, 1, none⟩ (.int .i64 y)).drew) (w.heap.size + 1) [.int .i64 x, .int .i64 y] 23 := (k1.set 0 _).set 1 _
    refine bodyPost_ret (refres_child k1' rfl rfl) rfl ?_
    rw [HO.out, HP.out]
    exact ⟨rfl, (below_set2 hB (by omega)).drew⟩

theorem splitR_bad {lo hi : Int} {l : List Int} (h : fitsI lo hi l ≠ 0) : splitR lo hi l = [] := by simp [splitR, h]
theorem splitR_ok {lo hi : Int} {l : List Int} (h : fitsI lo hi l = 0) : splitR lo hi l = splitL hi l := by simp [splitR, h]
theorem splitL_take {hi : Int} {l : List Int} {k : Nat} (h : k < l.length) : flat2 ((splitL hi l).take (k + 1)) = flat2 ((splitL hi l).take k) ++ [.int .i64 (partAt hi l k).1, .int .i64 (partAt hi l k).2] := by
  have hs : (splitL hi l).length = l.length := by simp [splitL]
  have hg : (splitL hi l)[k]'(by omega) = partAt hi l k := by simp [splitL]
  rw [List.take_succ_eq_append_getElem (by omega), hg]
  simp [flat2]
theorem splitL_all {hi : Int} {l : List Int} : (splitL hi l).take l.length = splitL hi l := List.take_of_length_le (by simp [splitL])

set_option maxRecDepth 100000 in
set_option maxHeartbeats 1000000 in
theorem refspan_split (lo hi : Int) (v : Value) (l : List Int) (w : World) (hlen : l.length ≤ 1000000) (hl : Ints w v l) :
    Calls Try.prog 16 #[spanV lo hi, v] w (RetS (fun w' r => Pairs w' r (splitR lo hi l)) w) := by
  obtain ⟨i0, hi0, hz0, hz1, hz2⟩ := info_parts Try.info23
  obtain ⟨a, c, rfl⟩ := hl.slice
  unfold spanV
  go_enter Try.func16, Try.ntmps16
  go_wp2_with fail
  have k0 := Blk.new w [.int .i64 lo, .int .i64 hi] 23
  have hl1 := hl.below (Bl.box w (.cells #[.int .i64 lo, .int .i64 hi] 23))
  have hB := Bl.box w (.cells #[.int .i64 lo, .int .i64 hi] 23)
  obtain ⟨W, hW⟩ : ∃ W, w.alloc (.cells #[.int .i64 lo, .int .i64 hi] 23) = W := ⟨_, rfl⟩
  have hz : w.heap.size + 1 = W.heap.size := by rw [← hW]; simp
  change Blk (w.alloc (.cells #[.int .i64 lo, .int .i64 hi] 23)) _ _ _ at k0
  rw [hW] at k0 hl1 hB ⊢
  clear hW hl
  go_loopw [5, 6] (fun o i wr => ∃ k : Nat, k ≤ l.length ∧ i = .int .i64 k ∧ (k = 0 ∨ fitsI lo hi l = 0) ∧ wr.ownsRow W.heap.size 23 2 o k (flat2 ((splitL hi l).take k)) ∧ Below W.heap.size W wr) (fun _ i _ => l.length - (intOf i).toNat)
  case atStart => exact ⟨0, by omega, rfl, .inl rfl, World.ownsRow_nil _ _ _ _, Below.refl _ _⟩
  case round =>
    obtain ⟨k, hk, rfl, hf, hown, hb⟩ := hrel
    have HF := Lib.hid hf; clear hf
    by_cases hlt : k < l.length
    · have k1 := k0.below hb
      have c0 := k1.cell (i := 0) rfl
      have c1 := k1.cell (i := 1) rfl
      have hl2 := hl1.below hb
      go_wp2_with fail
      refine (refspan_child lo hi _ _ l _ (by omega) hlen hl2).mono ?_
      rintro e w2 ⟨rfl, hb2⟩
      by_cases hfit : fitsI lo hi l = 0
      · have HI := Lib.hid hfit; clear hfit
        rw [child_in HI.out hlt]
        have hown2 := own_below hown hb2
        go_wp2_with (at_builtin; refine Stop.go ?_)
        unfold Stop
        refine app_own rfl _ _ 35 rfl W.heap.size 23 i0 (.agg #[.int .i64 0, .int .i64 0]) 2 16 Try.underlying35 hi0 hz0 hz1 hz2 rfl (by decide) u5 k _ rfl ((hown2.alloc _).alloc _) (w2.heap.size + 1) 1 1 [.int .i64 (partAt hi l k).1, .int .i64 (partAt hi l k).2] 23 rfl
          (by have := Blk.new (w2.alloc (.cells #[.int .i64 (partAt hi l k).1, .int .i64 (partAt hi l k).2] 23)) [.int .i64 (partAt hi l k).1, .int .i64 (partAt hi l k).2] 23; simpa using this) rfl (by simp [Value.oneCell']) (by unfold maxLen; omega) (by omega) (by have := hb.size; have := hb2.size; simp; omega) ?_
        intro v' w3 hown3 _ hb3
        rw [← splitL_take hlt] at hown3
        have hB3 : Below W.heap.size W w3 := ((hb.trans (hb2.mono hb.size)).trans ((Bl.next (Bl.box w2 _) (Bl.box _ _)).mono (Nat.le_trans hb.size hb2.size))).trans hb3
        have HO := Lib.hid hown3
        clear hown hown2 hown3
        go_wp2_with fail
        go_roundw
        case rel => exact ⟨k + 1, by omega, by go_num, .inr HI.out, HO.out, hB3⟩
        case measure => simp [intOf]; omega
      · rw [child_bad hfit]
        have hne : (fitsI lo hi l != 0) = true := by simpa using hfit
        have HI := Lib.hid hfit; clear hfit
        go_wp2_with fail
        go_ret
        rw [splitR_bad HI.out]
        exact ⟨_, rfl, Bl.next (Bl.next (Bl.next hB hb) hb2) (Bl.box _ _), .inl ⟨_, _, rfl, rfl, rfl⟩⟩
    · obtain rfl : k = l.length := by omega
      rw [splitL_all] at hown
      have HO := Lib.hid hown
      clear hown
      go_wp2_with fail
      go_ret
      have hs : (splitL hi l).length = l.length := by simp [splitL]
      have e : splitR lo hi l = splitL hi l := by
        rcases HF.out with h | h
        · obtain rfl := List.length_eq_zero_iff.1 h
          simp [splitR, splitL]
        · exact splitR_ok h
      rw [e]
      exact ⟨_, rfl, Bl.next hB hb, by unfold Pairs; rw [hs]; exact own_sl HO.out⟩
end Go.Proofs.Ythjemliaeklecaa
