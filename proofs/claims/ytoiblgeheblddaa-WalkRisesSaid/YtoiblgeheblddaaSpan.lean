/- What package span computes: All, Has, Right and Fits return the plain functions below, for any span and any slice of keys, and change nothing that lay there. -/
import Derived.Test.YtoiblgeheblddaaRows
import Derived.Test.YtoiblgeheblddaaBase
namespace Go.Proofs.Ytoiblgeheblddaa
open Go.RowKit
set_option linter.unusedVariables false

def hasB (lo hi k : Int) : Bool := decide (lo ≤ k ∧ k < hi)
def rightB (lo hi : Int) : Bool := decide (0 ≤ lo ∧ lo ≤ hi ∧ hi ≤ 281474976710656)
def SortP (l : List Int) : Prop := ∀ k, k < l.length → 1 ≤ k → l[k-1]?.getD 0 < l[k]?.getD 0
instance (l : List Int) : Decidable (SortP l) := by unfold SortP; infer_instance
def fitsI (lo hi : Int) (l : List Int) : Int :=
  if rightB lo hi then if SortP l then if ∀ k ∈ l, lo ≤ k ∧ k < hi then 0 else 9 else 8 else 1
@[go_sem] def spanV (lo hi : Int) : Value := .agg #[.int .i64 lo, .int .i64 hi]

theorem SortP.lt {l : List Int} (h : SortP l) : ∀ (j i : Nat), i < j → j < l.length → l[i]?.getD 0 < l[j]?.getD 0 := by
  intro j
  induction j with
  | zero => intro i h1; omega
  | succ j ih =>
    intro i h1 h2
    have h3 := h (j + 1) h2 (by omega)
    simp only [Nat.add_sub_cancel] at h3
    by_cases hij : i = j
    · subst hij; exact h3
    · exact Int.lt_trans (ih i (by omega) (by omega)) h3
theorem SortP.one (l : List Int) : SortP (l.take 1) := by
  intro k h1 h2; simp at h1; omega
theorem SortP.succ {l : List Int} {k : Nat} {x y : Int} (h : SortP (l.take k)) (hx : l[k-1]? = some x) (hy : l[k]? = some y) (hxy : x < y) : SortP (l.take (k + 1)) := by
  intro j h1 h2
  have hjk : j < k + 1 := by simp at h1; omega
  rw [List.getElem?_take, List.getElem?_take, if_pos (by omega), if_pos hjk]
  by_cases hj : j = k
  · subst hj; rw [hx, hy]; exact hxy
  · have := h j (by simp at h1 ⊢; omega) h2
    rw [List.getElem?_take, List.getElem?_take, if_pos (by omega), if_pos (by omega)] at this
    exact this
theorem fits_right {lo hi : Int} {l : List Int} (h : rightB lo hi = false) : fitsI lo hi l = 1 := by simp [fitsI, h]
theorem fits_order {lo hi : Int} {l : List Int} {k : Nat} {x y : Int} (h : rightB lo hi = true) (hk : 1 ≤ k) (hx : l[k-1]? = some x) (hy : l[k]? = some y) (hxy : y ≤ x) : fitsI lo hi l = 8 := by
  have hn : ¬ SortP l := fun hs => by
    have hlt : k < l.length := by rcases List.getElem?_eq_some_iff.1 hy with ⟨h, _⟩; exact h
    have := hs k hlt hk
    rw [hx, hy] at this
    simp at this; omega
  simp [fitsI, h, hn]
theorem fits_nil {lo hi : Int} (h : rightB lo hi = true) : fitsI lo hi [] = 0 := by
  have hs : SortP [] := fun k h1 => by simp at h1
  simp [fitsI, h, hs]
theorem SortP.all {l : List Int} {k : Nat} (h : SortP (l.take k)) (hk : l.length ≤ k) : SortP l := by rwa [List.take_of_length_le hk] at h
theorem hasB_iff {lo hi k : Int} : hasB lo hi k = true ↔ lo ≤ k ∧ k < hi := by simp [hasB]
theorem fits_in {lo hi : Int} {l : List Int} {x y : Int} (h : rightB lo hi = true) (hs : SortP l) (hx : l[0]? = some x) (hy : l[l.length - 1]? = some y) (ha : hasB lo hi x = true) (hb : hasB lo hi y = true) : fitsI lo hi l = 0 := by
  have hall : ∀ k ∈ l, lo ≤ k ∧ k < hi := by
    intro k hk
    obtain ⟨i, hi', rfl⟩ := List.mem_iff_getElem.1 hk
    rw [hasB_iff] at ha hb
    have e : l[i]? = some l[i] := by simp
    have h1 : x ≤ l[i] := by
      by_cases h0 : i = 0
      · subst h0; rw [hx] at e; injection e with e; omega
      · have := hs.lt i 0 (by omega) hi'
        rw [hx, e] at this; simp at this; omega
    have h2 : l[i] ≤ y := by
      by_cases h0 : i = l.length - 1
      · subst h0; rw [hy] at e; injection e with e; omega
      · have := hs.lt (l.length - 1) i (by omega) (by omega)
        rw [hy, e] at this; simp at this; omega
    omega
  simp only [fitsI, h, if_true, hs]
  rw [if_pos hall]
theorem fits_out {lo hi : Int} {l : List Int} {i : Nat} {x : Int} (h : rightB lo hi = true) (hs : SortP l) (hx : l[i]? = some x) (ha : hasB lo hi x = false) : fitsI lo hi l = 9 := by
  have hn : ¬ ∀ k ∈ l, lo ≤ k ∧ k < hi := fun hall => by
    have := hasB_iff.2 (hall x (List.mem_of_getElem? hx))
    rw [ha] at this; cases this
  simp only [fitsI, h, if_true, hs]
  rw [if_neg hn]

set_option maxHeartbeats 400000 in
theorem span_all (w : World) : Calls Try.prog 14 #[] w (Ret (spanV 0 281474976710656) w) := by
  go_enter Try.func14, Try.ntmps14
  go_wp2
  exact bodyPost_ret (v := spanV 0 281474976710656) (by simp [results, Try.results14, go_sem, spanV]) rfl ⟨rfl, Bl.box _ _⟩
set_option maxHeartbeats 400000 in
theorem span_has (lo hi k : Int) (w : World) : Calls Try.prog 71 #[spanV lo hi, .int .i64 k] w (Ret (.bool (hasB lo hi k)) w) := by
  unfold spanV
  go_enter Try.func71, Try.ntmps71
  go_wp2
  all_goals go_ret
  all_goals refine ⟨?_, Bl.box _ _⟩
  all_goals (unfold hasB; congr 2; simp; omega)
set_option maxHeartbeats 400000 in
theorem span_right (lo hi : Int) (w : World) : Calls Try.prog 70 #[spanV lo hi] w (Ret (.bool (rightB lo hi)) w) := by
  unfold spanV
  go_enter Try.func70, Try.ntmps70
  go_wp2_with fail
  refine (span_all _).mono ?_
  rintro e w' ⟨rfl, hb⟩
  have hz : w.heap.size < w'.heap.size := ltB hb (by simp)
  have h0 := getC hb (p := ⟨w.heap.size, 0, none⟩) (v := .int .i64 lo) (by simp [go_sem])
  have h1 := getC hb (p := ⟨w.heap.size, 1, none⟩) (v := .int .i64 hi) (by simp [go_sem])
  unfold spanV
  go_wp2_with fail
  all_goals go_ret
  all_goals refine ⟨?_, Bl.next (Bl.next (Bl.box w _) hb) (Bl.box _ _)⟩
  all_goals (unfold rightB; congr 2; simp [*]; try omega)

set_option maxHeartbeats 1000000 in
theorem span_fits (lo hi : Int) (v : Value) (l : List Int) (w : World) (hl : Ints w v l) :
    Calls Try.prog 51 #[spanV lo hi, v] w (Ret (.int .i64 (fitsI lo hi l)) w) := by
  by_cases hr : rightB lo hi = true
  case neg =>
    have hr' : rightB lo hi = false := by simpa using hr
    unfold spanV
    rcases hl with ⟨a0, c0, rfl, hl0, hl⟩ | ⟨b, off, cap, rfl, hcap, hmax, hc⟩
    all_goals
      go_enter Try.func51, Try.ntmps51
      go_wp2_with fail
      refine (span_right _ _ _).mono ?_
      rintro e w' ⟨rfl, hb⟩
      go_wp2_with fail
      go_ret
      exact ⟨by rw [fits_right hr']; rfl, Bl.next (Bl.box w _) hb⟩
  rcases hl with ⟨a0, c0, rfl, hl0, hl⟩ | ⟨b, off, cap, rfl, hcap, hmax, hc⟩
  · obtain rfl : l = [] := by simpa using hl
    unfold spanV
    go_enter Try.func51, Try.ntmps51
    go_wp2_with fail
    refine (span_right _ _ _).mono ?_
    rintro e w' ⟨rfl, hb⟩
    go_wp2_with fail
    go_loop [5] (fun i => i = .int .i64 1) (fun _ => 0)
    case atStart => exact rfl
    case round =>
      obtain rfl := hrel
      go_wp2_with fail
      refine wp_region_ext (by kernel_rfl) (by kernel_rfl) ?_
      repeat (go_big_quiet_step (fail))
      refine wpQuiet_nil ?_
      intro wx
      go_wp2_with fail
      go_ret
      exact ⟨by rw [fits_nil hr]; rfl, Bl.next (Bl.next (Bl.box w _) hb) wx.below⟩
  · unfold maxLen at hmax
    unfold spanV
    go_enter Try.func51, Try.ntmps51
    go_wp2_with fail
    refine (span_right _ _ _).mono ?_
    rintro e w' ⟨rfl, hb⟩
    have hz : w.heap.size < w'.heap.size := ltB hb (by simp)
    have h0 := getC hb (p := ⟨w.heap.size, 0, none⟩) (v := .int .i64 lo) (by simp [go_sem])
    have h1 := getC hb (p := ⟨w.heap.size, 1, none⟩) (v := .int .i64 hi) (by simp [go_sem])
    have hB := Bl.next (Bl.box w _) hb
    have HC := Lib.hid (fun j x (hj : l[j]? = some x) => getC hb (getA _ (hc j (.int .i64 x) (by simp [hj]))))
    clear hc hb
    go_wp2_with fail
    go_loopw [5] (fun i wr => ∃ k : Nat, 1 ≤ k ∧ i = .int .i64 k ∧ SortP (l.take k) ∧ Below w'.heap.size w' wr) (fun i _ => l.length - (intOf i).toNat)
    case atStart => exact ⟨1, by omega, rfl, SortP.one l, Below.refl _ _⟩
    case round =>
      obtain ⟨k, hk1, rfl, hs, hbr⟩ := hrel
      have HS := Lib.hid hs; clear hs
      by_cases hlt : k < l.length
      · obtain ⟨x, hx⟩ : ∃ x, l[k-1]? = some x := ⟨l[k-1], by simp⟩
        obtain ⟨y, hy⟩ : ∃ y, l[k]? = some y := ⟨l[k], by simp⟩
        have hcx := getC hbr (HC.out _ _ hx)
        have hcy := getC hbr (HC.out _ _ hy)
        have HX := Lib.hid hx; clear hx
        have HY := Lib.hid hy; clear hy
        go_wp2_with fail
        go_quiet (fail)
        go_wp2_with fail
        · go_ret
          exact ⟨by rw [fits_order hr hk1 HX.out HY.out (by assumption)]; rfl, Bl.next hB (Bl.drewN hbr _)⟩
        · go_roundw
          case rel => exact ⟨k + 1, by omega, by go_num, HS.out.succ HX.out HY.out (by assumption), Bl.drewN hbr _⟩
          case measure => simp [intOf]; omega
      · have hkk : l.length ≤ k := by omega
        by_cases h0l : l.length = 0
        · obtain rfl : l = [] := List.length_eq_zero_iff.mp h0l
          clear h0l
          go_wp2_with fail
          go_quiet (fail)
          go_wp2_with fail
          go_ret
          exact ⟨by rw [fits_nil hr]; rfl, Bl.next hB (Bl.drewN hbr _)⟩
        · obtain ⟨x, hx⟩ : ∃ x, l[0]? = some x := ⟨l[0], by simp⟩
          obtain ⟨y, hy⟩ : ∃ y, l[l.length-1]? = some y := ⟨l[l.length-1], by simp⟩
          have hpos : 0 < l.length := by omega
          have e0 : ∀ z : Ext wr, z.val.cell? ⟨w.heap.size, 0, none⟩ = some (.int .i64 lo) := fun z => z.get (getC hbr h0)
          have e1 : ∀ z : Ext wr, z.val.cell? ⟨w.heap.size, 1, none⟩ = some (.int .i64 hi) := fun z => z.get (getC hbr h1)
          have e2 : ∀ z : Ext wr, z.val.cell? ⟨b, off, none⟩ = some (.int .i64 x) := fun z => z.get (getC hbr (HC.out 0 _ hx))
          have e3 : ∀ z : Ext wr, z.val.cell? ⟨b, off + (l.length - 1), none⟩ = some (.int .i64 y) := fun z => z.get (getC hbr (HC.out _ _ hy))
          have HX := Lib.hid hx; clear hx
          have HY := Lib.hid hy; clear hy
          by_cases ha : hasB lo hi x = true
          · by_cases hb2 : hasB lo hi y = true
            · go_wp2_with fail
              refine wp_region_ext (by kernel_rfl) (by kernel_rfl) ?_
              repeat (go_big_quiet_step (exact Ret.ext (span_has _ _ _ _)))
              refine wpQuiet_nil ?_
              intro wx
              go_wp2_with fail
              go_ret
              exact ⟨by rw [fits_in hr (HS.out.all hkk) HX.out HY.out ha hb2]; rfl, Bl.next (Bl.next hB hbr) wx.below⟩
            · have hb2 : hasB lo hi y = false := by simpa using hb2
              go_wp2_with fail
              refine wp_region_ext (by kernel_rfl) (by kernel_rfl) ?_
              repeat (go_big_quiet_step (exact Ret.ext (span_has _ _ _ _)))
              refine wpQuiet_nil ?_
              intro wx
              go_wp2_with fail
              go_ret
              exact ⟨by rw [fits_out hr (HS.out.all hkk) HY.out hb2]; rfl, Bl.next (Bl.next hB hbr) wx.below⟩
          · have ha : hasB lo hi x = false := by simpa using ha
            go_wp2_with fail
            refine wp_region_ext (by kernel_rfl) (by kernel_rfl) ?_
            repeat (go_big_quiet_step (exact Ret.ext (span_has _ _ _ _)))
            refine wpQuiet_nil ?_
            intro wx
            go_wp2_with fail
            go_ret
            exact ⟨by rw [fits_out hr (HS.out.all hkk) HX.out ha]; rfl, Bl.next (Bl.next hB hbr) wx.below⟩
end Go.Proofs.Ytoiblgeheblddaa

